/- For every input the law answers true. -/
import Derived.Test.YtnpfeemkichniaaPc
import Derived.Test.YtnpfeemkichniaaRows
import Derived.Test.YtnpfeemkichniaaChecked
import Derived.Test.YtnpfeemkichniaaHiP
import Derived.Test.YtnpfeemkichniaaHiT
import Derived.WalkKit
import Derived.ProofKit
import Derived.OpenShut
import Derived.ShutString
import Derived.ChangeOld
import Derived.Below
import Derived.SizedLaws
namespace Go.Proofs.Ytnpfeemkichniaa.Hi
open Go Go.Proofs.YtnpfeemkichniaaPi Go.ChangeShapes Go.WideShapes Go.ChangeAt Go.RowKit Go.Deep
open Go.ChangeMaps (open_string shut_string)
set_option linter.unusedVariables false
theorem own : ownKnob Try.prog.godebug = none := by kernel_rfl
theorem laidOut : laidOutB Try.prog = true := by kernel_rfl
set_option maxRecDepth 100000 in
theorem lifted (os : Os) (started : os.Started) (H : Type) (enc : TypeId × Value → H) :
    ReturnsInHanded {} Try.checked os 4 .any (Rows.fnSnailsHiddenSpec.pre6 enc Try.prog Try.f4 Rows.fnSnailsHiddenRow.domain false) (Rows.fnSnailsHiddenSpec.post enc Try.prog Try.f4 false true false false) := by
  refine returnsInHanded_of_change_sized (C := Try.checked) own started (by kernel_rfl) Try.func4
    (ChangeSpec.witness6 (enc := enc) (C := Try.checked) false ⟨#[], #[.slice none 0 0, .slice none 0 0], []⟩ 8 (by kernel_rfl) (by kernel_rfl) (by kernel_rfl) (by kernel_rfl)) ?_
  intro W base args ds gs before hval0 hW hcnd hsz0 _
  have hsz : (DataW.weightsEach Try.prog (Try.f4.params.toList ++ Rows.fnSnailsHiddenSpec.plain.varTypes Try.prog) (ds ++ gs)).all (· ≤ reachBytes) = true := hsz0
  have hval : ∀ (j : Nat) t v, Try.f4.params[j]? = some t → args[j]? = some v → Value.okWide Try.prog W .any base t v := hval0
  have hW' := hW
  obtain ⟨p, q, hA0, hV, rfl, hfz, hnd⟩ := hW
  have hA : DataW.TrodAll enc Try.prog W 0 (fun _ => true) true Try.f4.params.toList args.toList ds p := hA0
  rw [Try.params4] at hA hval hsz
  obtain ⟨v0, vs0, d0, ds0, p0, q0, hargs, rfl, rfl, h0, r0⟩ := trodAll_cons hA
  obtain ⟨v1, vs1, d1, ds1, p1, q1, rfl, rfl, rfl, h1, r1⟩ := trodAll_cons r0
  obtain ⟨rfl, rfl, rfl⟩ := trodAll_nil r1
  obtain rfl : args = #[v0, v1] := by cases args; simp_all
  obtain ⟨rfl, rfl⟩ := trodVars_none hV
  have k0 := h0
  have lt0 : ∀ x ∈ p0, x.block < W.heap.size := by obtain ⟨m, hm⟩ := k0; exact DataW.trod_lt m _ _ _ hm
  obtain ⟨n0, hs0⟩ := open_slice_top Try.underlying51 (hval 0 51 v0 rfl rfl) h0
  have hsft0 : Fit Try.prog 51 (d0, p0).1 := fit_at hsz (j := 0) (t := 51) rfl rfl
  obtain ⟨z0, hmz0, hwz0, hkz0⟩ := open_numbers Try.underlying51 Try.underlying5 (by kernel_rfl) hs0 hsft0
  have k1 := h1
  have lt1 : ∀ x ∈ p1, x.block < W.heap.size := by obtain ⟨m, hm⟩ := k1; exact DataW.trod_lt m _ _ _ hm
  obtain ⟨n1, hs1⟩ := open_slice_top Try.underlying51 (hval 1 51 v1 rfl rfl) h1
  have hsft1 : Fit Try.prog 51 (d1, p1).1 := fit_at hsz (j := 1) (t := 51) rfl rfl
  obtain ⟨z1, hmz1, hwz1, hkz1⟩ := open_numbers Try.underlying51 Try.underlying5 (by kernel_rfl) hs1 hsft1
  clear hA0 hval0 hsz0 hsz
  obtain ⟨k, hk⟩ := FnSnailsHidden z0 z1 (len_of 1 hmz0 (by kernel_rfl)) hwz0 (len_of 1 hmz1 (by kernel_rfl)) hwz1
  have hp := laws_FnSnailsHidden.k (n := k) (Nat.le_refl _) z0 z1 _ hk
  refine (law_calls (Γ := ⟨fun _ => True, fun _ => False, fun _ _ _ _ _ _ _ => trivial⟩) fits (prims_ok _) (f := 4) hp rfl rfl rfl (us := [_, _])
    (show ARs (oldSit W) _ _ from ⟨_, _, rfl, (show CR _ _ _ from (by simp only [CR]; exact hkz0)), ⟨_, _, rfl, (show CR _ _ _ from (by simp only [CR]; exact hkz1)), rfl⟩⟩) trivial (fun _ h => h.elim)).mono ?_
  rintro e W' ⟨rfl, bel0⟩
  have bel : Below W.heap.size W W' := bel0
  exact ⟨_, rfl, _, _, _, [], _, [], hW', trodAll_mk1 (shut_bool Try.underlying4 _), (trodAll_cons_mk (Below.trod laidOut (by kernel_rfl) (of_decide_eq_true (by kernel_rfl)) k0 bel lt0) (trodAll_cons_mk (Below.trod laidOut (by kernel_rfl) (of_decide_eq_true (by kernel_rfl)) k1 bel lt1) trodAll_mk0)), rfl, bel.frame _, fun h => by cases h⟩
theorem over : Rows.fnSnailsHiddenRow.holds Try.pinned (OpenSpec.ofChange Rows.fnSnailsHiddenSpec) :=
  OpenClaim.holds_of_wide 4 Try.f4 rfl rfl rfl rfl rfl rfl rfl ⟨rfl, rfl, rfl, rfl, rfl⟩ rfl rfl rfl rfl rfl (by kernel_rfl) Try.func4 (by kernel_rfl)
    (of_decide_eq_true (by kernel_rfl)) (by unfold Func.isWrapper; first | (rw [if_pos (by decide +kernel)]; kernel_rfl) | (rw [if_neg (by decide +kernel)]; exact ⟨rfl, rfl⟩))
    (fun os started H enc _ => lifted os started H enc)
theorem proved : Rows.FnSnailsHiddenSaid := over
#print axioms proved
end Go.Proofs.Ytnpfeemkichniaa.Hi
namespace Go.Proofs.Ytnpfeemkichniaa
/-- The row, under a short name, for the claim. -/
theorem fnSnailsHidden_holds : Rows.FnSnailsHiddenSaid := Hi.proved
end Go.Proofs.Ytnpfeemkichniaa
