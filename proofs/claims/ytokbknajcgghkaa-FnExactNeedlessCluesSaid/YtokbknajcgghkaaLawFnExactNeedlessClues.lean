-- written by a program of this session, over the form of the kit's print
import Derived.Test.YtokbknajcgghkaaRows
import Derived.Test.YtokbknajcgghkaaQFnExactNeedlessCluesx7
import Derived.Test.YtokbknajcgghkaaPureFnExactNeedlessClues
import Derived.Test.YtokbknajcgghkaaV
import Derived.WalkKit
import Derived.ProofKit
import Derived.OpenShut
import Derived.ShutString
import Derived.ChangeOld
import Derived.Below
import Derived.SizedLaws
namespace Go.Proofs.Ytokbknajcgghkaa.fnExactNeedlessClues
open Go.ChangeShapes Go.WideShapes Go.ChangeAt Go.RowKit Go.Deep
open Go.ChangeMaps (open_string shut_string)
open Go.Proofs.Ytokbknajcgghkaa.QFnExactNeedlessClues Go.Proofs.YtokbknajcgghkaaV
open Go.Proofs.YtokbknajcgghkaaW.PrintWords Go.Proofs.YtokbknajcgghkaaW.PrintLast
set_option linter.unusedVariables false
theorem own : ownKnob Try.prog.godebug = none := by kernel_rfl
theorem laidOut : laidOutB Try.prog = true := by kernel_rfl
def mk100 (zs : List Int) : S100 := ⟨zs.getD 0 0, zs.getD 1 0, zs.getD 2 0⟩
theorem mkK100 (w : World) (zs : List Int) (h : zs.length = 3) : k100.K w (mk100 zs) (zs.map (Value.int .i64)) := by
  match zs, h with
  | [z0, z1, z2], _ => exact k100_mk w _
theorem mkW100 {L : List (List Int)} (h : ∀ zs ∈ L, zs.length = 3 ∧ ∀ z ∈ zs, (Lit.int .i64 z).wf = true) : ∀ x ∈ L.map mk100, (Lit.int .i64 x.f0).wf = true ∧ (Lit.int .i64 x.f1).wf = true ∧ (Lit.int .i64 x.f2).wf = true := by
  intro x hx
  obtain ⟨zs, hz, rfl⟩ := List.mem_map.1 hx
  obtain ⟨h1, h2⟩ := h zs hz
  match zs, h1 with
  | [z0, z1, z2], _ => exact ⟨h2 z0 (by simp), h2 z1 (by simp), h2 z2 (by simp)⟩
theorem ints100 : ∀ {fs : Array Field}, Try.prog.underlying 100 = some (.struct fs) → AllInts Try.prog fs := by
  intro fs h j f hj
  rw [Try.underlying100] at h
  obtain rfl := TypeDesc.struct.inj (Option.some.inj h)
  rcases j with _ | _ | _ | j
  · obtain rfl := Option.some.inj hj; exact Try.underlying3
  · obtain rfl := Option.some.inj hj; exact Try.underlying3
  · obtain rfl := Option.some.inj hj; exact Try.underlying3
  · simp at hj
set_option maxRecDepth 100000 in
theorem lifted (os : Os) (started : os.Started) (H : Type) (enc : TypeId × Value → H) :
    ReturnsInHanded {} Try.checked os 4 .any (Rows.fnExactNeedlessCluesSpec.pre6 enc Try.prog Try.f4 Rows.fnExactNeedlessCluesRow.domain false) (Rows.fnExactNeedlessCluesSpec.post enc Try.prog Try.f4 false true false false) := by
  refine returnsInHanded_of_change_sized (C := Try.checked) own started (by kernel_rfl) Try.func4
    (ChangeSpec.witness6 (enc := enc) (C := Try.checked) false ⟨#[], #[.agg #[.slice none 0 0]], []⟩ 8 (by kernel_rfl) (by kernel_rfl) (by kernel_rfl) (by kernel_rfl)) ?_
  intro W base args ds gs before hval0 hW hcnd hsz0 _
  have hsz : (DataW.weightsEach Try.prog (Try.f4.params.toList ++ Rows.fnExactNeedlessCluesSpec.plain.varTypes Try.prog) (ds ++ gs)).all (· ≤ reachBytes) = true := hsz0
  have hval : ∀ (j : Nat) t v, Try.f4.params[j]? = some t → args[j]? = some v → Value.okWide Try.prog W .any base t v := hval0
  have hW' := hW
  obtain ⟨p, q, hA0, hV, rfl, hfz, hnd⟩ := hW
  have hA : DataW.TrodAll enc Try.prog W 0 (fun _ => true) true Try.f4.params.toList args.toList ds p := hA0
  rw [Try.params4] at hA hval hsz
  obtain ⟨v0, vs0, d0, ds0, p0, q0, hargs, rfl, rfl, h0, r0⟩ := trodAll_cons hA
  obtain ⟨rfl, rfl, rfl⟩ := trodAll_nil r0
  obtain rfl : args = #[v0] := by cases args; simp_all
  obtain ⟨rfl, rfl⟩ := trodVars_none hV
  have k0 := h0
  have lt0 : ∀ x ∈ p0, x.block < W.heap.size := by obtain ⟨m, hm⟩ := k0; exact DataW.trod_lt m _ _ _ hm
  obtain ⟨cs0, n0, rfl, hl0, hf0⟩ := open_aggs Try.underlying24 (by kernel_rfl) (by kernel_rfl) (hval 0 24 v0 rfl rfl) h0
  obtain ⟨u0_0, _, hg0_0, ht0_0⟩ := hf0 0 _ rfl
  obtain rfl : cs0 = [u0_0] := by
    apply List.ext_getElem? 
    intro j
    rcases j with _ | j
    · exact hg0_0
    · rw [List.getElem?_eq_none (by rw [hl0]; exact Nat.le_add_left _ _), List.getElem?_eq_none (by exact Nat.le_add_left _ _)]
  obtain ⟨A0_0, c0_0, L0_0, rfl, hc0_0, hm0_0, hr0_0, hw0_0⟩ := open_int_structs k100 mk100 Try.underlying22 Try.underlying100 (by kernel_rfl) (by kernel_rfl) (ints100 Try.underlying100) rfl (mkK100 W) ht0_0
  clear hA0 hval0 hsz0 hsz
  obtain ⟨k, hk⟩ := Pure.FnExactNeedlessClues (L0_0.map mk100) hm0_0 (mkW100 hw0_0)
  refine (QFnExactNeedlessClues.laws_FnExactNeedlessClues.calls k A0_0 c0_0 (L0_0.map mk100) true W hr0_0 hc0_0 hk).mono ?_
  rintro e W' ⟨rfl, bel0⟩
  have bel : Below W.heap.size W W' := bel0
  exact ⟨_, rfl, _, _, _, [], _, [], hW', trodAll_mk1 (shut_bool Try.underlying4 _), (trodAll_cons_mk (Below.trod laidOut (by kernel_rfl) (of_decide_eq_true (by kernel_rfl)) k0 bel lt0) trodAll_mk0), rfl, bel.frame _, fun h => by cases h⟩
theorem over : Rows.fnExactNeedlessCluesRow.holds Try.pinned (OpenSpec.ofChange Rows.fnExactNeedlessCluesSpec) :=
  OpenClaim.holds_of_wide 4 Try.f4 rfl rfl rfl rfl rfl rfl rfl ⟨rfl, rfl, rfl, rfl, rfl⟩ rfl rfl rfl rfl rfl (by kernel_rfl) Try.func4 (by kernel_rfl)
    (of_decide_eq_true (by kernel_rfl)) (by unfold Func.isWrapper; first | (rw [if_pos (by decide +kernel)]; kernel_rfl) | (rw [if_neg (by decide +kernel)]; exact ⟨rfl, rfl⟩))
    (fun os started H enc _ => lifted os started H enc)
theorem proved : Rows.FnExactNeedlessCluesSaid := over
#print axioms proved
end Go.Proofs.Ytokbknajcgghkaa.fnExactNeedlessClues
namespace Go.Proofs.Ytokbknajcgghkaa
/-- The row, under a short name, for the claim. -/
theorem fnExactNeedlessClues_holds : Rows.FnExactNeedlessCluesSaid := fnExactNeedlessClues.proved
end Go.Proofs.Ytokbknajcgghkaa
