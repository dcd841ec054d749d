/- For every input the law answers true. -/
import Derived.Test.YtnpfeemkichniaaPc
import Derived.Test.YtnpfeemkichniaaRows
import Derived.Test.YtnpfeemkichniaaChecked
import Derived.Test.YtnpfeemkichniaaHaP
import Derived.Test.YtnpfeemkichniaaHaT
import Derived.WalkKit
import Derived.ProofKit
import Derived.OpenShut
import Derived.ShutString
import Derived.ChangeOld
import Derived.Below
import Derived.SizedLaws
namespace Go.Proofs.Ytnpfeemkichniaa.Ha
open Go Go.Proofs.YtnpfeemkichniaaPi Go.ChangeShapes Go.WideShapes Go.ChangeAt Go.RowKit Go.Deep
open Go.ChangeMaps (open_string shut_string)
set_option linter.unusedVariables false
theorem own : ownKnob Try.prog.godebug = none := by kernel_rfl
theorem laidOut : laidOutB Try.prog = true := by kernel_rfl
theorem ints28 : ∀ {fs : Array Field}, Try.prog.underlying 28 = some (.struct fs) → AllInts Try.prog fs := by
  intro fs h j f hj
  rw [Try.underlying28] at h
  obtain rfl := TypeDesc.struct.inj (Option.some.inj h)
  rcases j with _ | _ | _ | j
  · obtain rfl := Option.some.inj hj; exact Try.underlying3
  · obtain rfl := Option.some.inj hj; exact Try.underlying3
  · obtain rfl := Option.some.inj hj; exact Try.underlying3
  · simp at hj
set_option maxRecDepth 100000 in
theorem lifted (os : Os) (started : os.Started) (H : Type) (enc : TypeId × Value → H) :
    ReturnsInHanded {} Try.checked os 3 .any (Rows.fnSnailsHiddenOfAllSpec.pre6 enc Try.prog Try.f3 Rows.fnSnailsHiddenOfAllRow.domain false) (Rows.fnSnailsHiddenOfAllSpec.post enc Try.prog Try.f3 false true false false) := by
  refine returnsInHanded_of_change_sized (C := Try.checked) own started (by kernel_rfl) Try.func3
    (ChangeSpec.witness6 (enc := enc) (C := Try.checked) false ⟨#[], #[.agg #[.int .i64 0, .int .i64 0], .int .i64 0, .int .i64 0, .agg #[.slice none 0 0], .agg #[.slice none 0 0], .agg #[.int .i64 0, .int .i64 0, .int .i64 0], .agg #[.slice none 0 0], .int .i64 0, .agg #[.int .i64 0, .int .i64 0, .int .i64 0], .agg #[.int .i64 0, .int .i64 0], .agg #[.int .i64 0, .int .i64 0, .int .i64 0]], []⟩ 8 (by kernel_rfl) (by kernel_rfl) (by kernel_rfl) (by kernel_rfl)) ?_
  intro W base args ds gs before hval0 hW hcnd hsz0 _
  have hsz : (DataW.weightsEach Try.prog (Try.f3.params.toList ++ Rows.fnSnailsHiddenOfAllSpec.plain.varTypes Try.prog) (ds ++ gs)).all (· ≤ reachBytes) = true := hsz0
  have hval : ∀ (j : Nat) t v, Try.f3.params[j]? = some t → args[j]? = some v → Value.okWide Try.prog W .any base t v := hval0
  have hW' := hW
  obtain ⟨p, q, hA0, hV, rfl, hfz, hnd⟩ := hW
  have hA : DataW.TrodAll enc Try.prog W 0 (fun _ => true) true Try.f3.params.toList args.toList ds p := hA0
  rw [Try.params3] at hA hval hsz
  obtain ⟨v0, vs0, d0, ds0, p0, q0, hargs, rfl, rfl, h0, r0⟩ := trodAll_cons hA
  obtain ⟨v1, vs1, d1, ds1, p1, q1, rfl, rfl, rfl, h1, r1⟩ := trodAll_cons r0
  obtain ⟨v2, vs2, d2, ds2, p2, q2, rfl, rfl, rfl, h2, r2⟩ := trodAll_cons r1
  obtain ⟨v3, vs3, d3, ds3, p3, q3, rfl, rfl, rfl, h3, r3⟩ := trodAll_cons r2
  obtain ⟨v4, vs4, d4, ds4, p4, q4, rfl, rfl, rfl, h4, r4⟩ := trodAll_cons r3
  obtain ⟨v5, vs5, d5, ds5, p5, q5, rfl, rfl, rfl, h5, r5⟩ := trodAll_cons r4
  obtain ⟨v6, vs6, d6, ds6, p6, q6, rfl, rfl, rfl, h6, r6⟩ := trodAll_cons r5
  obtain ⟨v7, vs7, d7, ds7, p7, q7, rfl, rfl, rfl, h7, r7⟩ := trodAll_cons r6
  obtain ⟨v8, vs8, d8, ds8, p8, q8, rfl, rfl, rfl, h8, r8⟩ := trodAll_cons r7
  obtain ⟨v9, vs9, d9, ds9, p9, q9, rfl, rfl, rfl, h9, r9⟩ := trodAll_cons r8
  obtain ⟨v10, vs10, d10, ds10, p10, q10, rfl, rfl, rfl, h10, r10⟩ := trodAll_cons r9
  obtain ⟨rfl, rfl, rfl⟩ := trodAll_nil r10
  obtain rfl : args = #[v0, v1, v2, v3, v4, v5, v6, v7, v8, v9, v10] := by cases args; simp_all
  obtain ⟨rfl, rfl⟩ := trodVars_none hV
  have k0 := h0
  have lt0 : ∀ x ∈ p0, x.block < W.heap.size := by obtain ⟨m, hm⟩ := k0; exact DataW.trod_lt m _ _ _ hm
  obtain ⟨cs0, n0, rfl, hl0, hf0⟩ := open_aggs Try.underlying23 (by kernel_rfl) (by kernel_rfl) (hval 0 23 v0 rfl rfl) h0 (fit_at hsz (j := 0) (t := 23) rfl rfl)
  obtain ⟨u0_0, _, hg0_0, ht0_0, hft0_0⟩ := hf0 0 _ rfl
  obtain ⟨u0_1, _, hg0_1, ht0_1, hft0_1⟩ := hf0 1 _ rfl
  obtain rfl : cs0 = [u0_0, u0_1] := by
    apply List.ext_getElem?
    intro j
    rcases j with _ | _ | j
    · exact hg0_0
    · exact hg0_1
    · rw [List.getElem?_eq_none (by rw [hl0]; exact Nat.le_add_left _ _), List.getElem?_eq_none (by exact Nat.le_add_left _ _)]
  obtain ⟨z0_0, hzz0_0, _, hwz0_0⟩ := DataW.trod_int Try.underlying3 ht0_0
  obtain rfl : u0_0 = .int .i64 z0_0 := by simpa using hzz0_0
  obtain ⟨z0_1, hzz0_1, _, hwz0_1⟩ := DataW.trod_int Try.underlying3 ht0_1
  obtain rfl : u0_1 = .int .i64 z0_1 := by simpa using hzz0_1
  obtain ⟨z1, rfl, rfl, rfl, hw1⟩ := open_int Try.underlying3 (hval 1 3 v1 rfl rfl) h1
  obtain ⟨z2, rfl, rfl, rfl, hw2⟩ := open_int Try.underlying3 (hval 2 3 v2 rfl rfl) h2
  have k3 := h3
  have lt3 : ∀ x ∈ p3, x.block < W.heap.size := by obtain ⟨m, hm⟩ := k3; exact DataW.trod_lt m _ _ _ hm
  obtain ⟨cs3, n3, rfl, hl3, hf3⟩ := open_aggs Try.underlying26 (by kernel_rfl) (by kernel_rfl) (hval 3 26 v3 rfl rfl) h3 (fit_at hsz (j := 3) (t := 26) rfl rfl)
  obtain ⟨u3_0, _, hg3_0, ht3_0, hft3_0⟩ := hf3 0 _ rfl
  obtain rfl : cs3 = [u3_0] := by
    apply List.ext_getElem?
    intro j
    rcases j with _ | j
    · exact hg3_0
    · rw [List.getElem?_eq_none (by rw [hl3]; exact Nat.le_add_left _ _), List.getElem?_eq_none (by exact Nat.le_add_left _ _)]
  obtain ⟨z3_0, hmz3_0, hwz3_0, hkz3_0⟩ := open_structs 3 Try.underlying24 Try.underlying28 (by kernel_rfl) (by kernel_rfl) (ints28 Try.underlying28) rfl (by omega) ht3_0 hft3_0
  have k4 := h4
  have lt4 : ∀ x ∈ p4, x.block < W.heap.size := by obtain ⟨m, hm⟩ := k4; exact DataW.trod_lt m _ _ _ hm
  obtain ⟨cs4, n4, rfl, hl4, hf4⟩ := open_aggs Try.underlying26 (by kernel_rfl) (by kernel_rfl) (hval 4 26 v4 rfl rfl) h4 (fit_at hsz (j := 4) (t := 26) rfl rfl)
  obtain ⟨u4_0, _, hg4_0, ht4_0, hft4_0⟩ := hf4 0 _ rfl
  obtain rfl : cs4 = [u4_0] := by
    apply List.ext_getElem?
    intro j
    rcases j with _ | j
    · exact hg4_0
    · rw [List.getElem?_eq_none (by rw [hl4]; exact Nat.le_add_left _ _), List.getElem?_eq_none (by exact Nat.le_add_left _ _)]
  obtain ⟨z4_0, hmz4_0, hwz4_0, hkz4_0⟩ := open_structs 3 Try.underlying24 Try.underlying28 (by kernel_rfl) (by kernel_rfl) (ints28 Try.underlying28) rfl (by omega) ht4_0 hft4_0
  have k5 := h5
  have lt5 : ∀ x ∈ p5, x.block < W.heap.size := by obtain ⟨m, hm⟩ := k5; exact DataW.trod_lt m _ _ _ hm
  obtain ⟨cs5, n5, rfl, hl5, hf5⟩ := open_aggs Try.underlying28 (by kernel_rfl) (by kernel_rfl) (hval 5 28 v5 rfl rfl) h5 (fit_at hsz (j := 5) (t := 28) rfl rfl)
  obtain ⟨u5_0, _, hg5_0, ht5_0, hft5_0⟩ := hf5 0 _ rfl
  obtain ⟨u5_1, _, hg5_1, ht5_1, hft5_1⟩ := hf5 1 _ rfl
  obtain ⟨u5_2, _, hg5_2, ht5_2, hft5_2⟩ := hf5 2 _ rfl
  obtain rfl : cs5 = [u5_0, u5_1, u5_2] := by
    apply List.ext_getElem?
    intro j
    rcases j with _ | _ | _ | j
    · exact hg5_0
    · exact hg5_1
    · exact hg5_2
    · rw [List.getElem?_eq_none (by rw [hl5]; exact Nat.le_add_left _ _), List.getElem?_eq_none (by exact Nat.le_add_left _ _)]
  obtain ⟨z5_0, hzz5_0, _, hwz5_0⟩ := DataW.trod_int Try.underlying3 ht5_0
  obtain rfl : u5_0 = .int .i64 z5_0 := by simpa using hzz5_0
  obtain ⟨z5_1, hzz5_1, _, hwz5_1⟩ := DataW.trod_int Try.underlying3 ht5_1
  obtain rfl : u5_1 = .int .i64 z5_1 := by simpa using hzz5_1
  obtain ⟨z5_2, hzz5_2, _, hwz5_2⟩ := DataW.trod_int Try.underlying3 ht5_2
  obtain rfl : u5_2 = .int .i64 z5_2 := by simpa using hzz5_2
  have k6 := h6
  have lt6 : ∀ x ∈ p6, x.block < W.heap.size := by obtain ⟨m, hm⟩ := k6; exact DataW.trod_lt m _ _ _ hm
  obtain ⟨cs6, n6, rfl, hl6, hf6⟩ := open_aggs Try.underlying26 (by kernel_rfl) (by kernel_rfl) (hval 6 26 v6 rfl rfl) h6 (fit_at hsz (j := 6) (t := 26) rfl rfl)
  obtain ⟨u6_0, _, hg6_0, ht6_0, hft6_0⟩ := hf6 0 _ rfl
  obtain rfl : cs6 = [u6_0] := by
    apply List.ext_getElem?
    intro j
    rcases j with _ | j
    · exact hg6_0
    · rw [List.getElem?_eq_none (by rw [hl6]; exact Nat.le_add_left _ _), List.getElem?_eq_none (by exact Nat.le_add_left _ _)]
  obtain ⟨z6_0, hmz6_0, hwz6_0, hkz6_0⟩ := open_structs 3 Try.underlying24 Try.underlying28 (by kernel_rfl) (by kernel_rfl) (ints28 Try.underlying28) rfl (by omega) ht6_0 hft6_0
  obtain ⟨z7, rfl, rfl, rfl, hw7⟩ := open_int Try.underlying3 (hval 7 3 v7 rfl rfl) h7
  have k8 := h8
  have lt8 : ∀ x ∈ p8, x.block < W.heap.size := by obtain ⟨m, hm⟩ := k8; exact DataW.trod_lt m _ _ _ hm
  obtain ⟨cs8, n8, rfl, hl8, hf8⟩ := open_aggs Try.underlying28 (by kernel_rfl) (by kernel_rfl) (hval 8 28 v8 rfl rfl) h8 (fit_at hsz (j := 8) (t := 28) rfl rfl)
  obtain ⟨u8_0, _, hg8_0, ht8_0, hft8_0⟩ := hf8 0 _ rfl
  obtain ⟨u8_1, _, hg8_1, ht8_1, hft8_1⟩ := hf8 1 _ rfl
  obtain ⟨u8_2, _, hg8_2, ht8_2, hft8_2⟩ := hf8 2 _ rfl
  obtain rfl : cs8 = [u8_0, u8_1, u8_2] := by
    apply List.ext_getElem?
    intro j
    rcases j with _ | _ | _ | j
    · exact hg8_0
    · exact hg8_1
    · exact hg8_2
    · rw [List.getElem?_eq_none (by rw [hl8]; exact Nat.le_add_left _ _), List.getElem?_eq_none (by exact Nat.le_add_left _ _)]
  obtain ⟨z8_0, hzz8_0, _, hwz8_0⟩ := DataW.trod_int Try.underlying3 ht8_0
  obtain rfl : u8_0 = .int .i64 z8_0 := by simpa using hzz8_0
  obtain ⟨z8_1, hzz8_1, _, hwz8_1⟩ := DataW.trod_int Try.underlying3 ht8_1
  obtain rfl : u8_1 = .int .i64 z8_1 := by simpa using hzz8_1
  obtain ⟨z8_2, hzz8_2, _, hwz8_2⟩ := DataW.trod_int Try.underlying3 ht8_2
  obtain rfl : u8_2 = .int .i64 z8_2 := by simpa using hzz8_2
  have k9 := h9
  have lt9 : ∀ x ∈ p9, x.block < W.heap.size := by obtain ⟨m, hm⟩ := k9; exact DataW.trod_lt m _ _ _ hm
  obtain ⟨cs9, n9, rfl, hl9, hf9⟩ := open_aggs Try.underlying23 (by kernel_rfl) (by kernel_rfl) (hval 9 23 v9 rfl rfl) h9 (fit_at hsz (j := 9) (t := 23) rfl rfl)
  obtain ⟨u9_0, _, hg9_0, ht9_0, hft9_0⟩ := hf9 0 _ rfl
  obtain ⟨u9_1, _, hg9_1, ht9_1, hft9_1⟩ := hf9 1 _ rfl
  obtain rfl : cs9 = [u9_0, u9_1] := by
    apply List.ext_getElem?
    intro j
    rcases j with _ | _ | j
    · exact hg9_0
    · exact hg9_1
    · rw [List.getElem?_eq_none (by rw [hl9]; exact Nat.le_add_left _ _), List.getElem?_eq_none (by exact Nat.le_add_left _ _)]
  obtain ⟨z9_0, hzz9_0, _, hwz9_0⟩ := DataW.trod_int Try.underlying3 ht9_0
  obtain rfl : u9_0 = .int .i64 z9_0 := by simpa using hzz9_0
  obtain ⟨z9_1, hzz9_1, _, hwz9_1⟩ := DataW.trod_int Try.underlying3 ht9_1
  obtain rfl : u9_1 = .int .i64 z9_1 := by simpa using hzz9_1
  have k10 := h10
  have lt10 : ∀ x ∈ p10, x.block < W.heap.size := by obtain ⟨m, hm⟩ := k10; exact DataW.trod_lt m _ _ _ hm
  obtain ⟨cs10, n10, rfl, hl10, hf10⟩ := open_aggs Try.underlying28 (by kernel_rfl) (by kernel_rfl) (hval 10 28 v10 rfl rfl) h10 (fit_at hsz (j := 10) (t := 28) rfl rfl)
  obtain ⟨u10_0, _, hg10_0, ht10_0, hft10_0⟩ := hf10 0 _ rfl
  obtain ⟨u10_1, _, hg10_1, ht10_1, hft10_1⟩ := hf10 1 _ rfl
  obtain ⟨u10_2, _, hg10_2, ht10_2, hft10_2⟩ := hf10 2 _ rfl
  obtain rfl : cs10 = [u10_0, u10_1, u10_2] := by
    apply List.ext_getElem?
    intro j
    rcases j with _ | _ | _ | j
    · exact hg10_0
    · exact hg10_1
    · exact hg10_2
    · rw [List.getElem?_eq_none (by rw [hl10]; exact Nat.le_add_left _ _), List.getElem?_eq_none (by exact Nat.le_add_left _ _)]
  obtain ⟨z10_0, hzz10_0, _, hwz10_0⟩ := DataW.trod_int Try.underlying3 ht10_0
  obtain rfl : u10_0 = .int .i64 z10_0 := by simpa using hzz10_0
  obtain ⟨z10_1, hzz10_1, _, hwz10_1⟩ := DataW.trod_int Try.underlying3 ht10_1
  obtain rfl : u10_1 = .int .i64 z10_1 := by simpa using hzz10_1
  obtain ⟨z10_2, hzz10_2, _, hwz10_2⟩ := DataW.trod_int Try.underlying3 ht10_2
  obtain rfl : u10_2 = .int .i64 z10_2 := by simpa using hzz10_2
  clear hA0 hval0 hsz0 hsz
  obtain ⟨k, hk⟩ := FnSnailsHiddenOfAll z0_0 z0_1 z1 z2 z3_0 z4_0 z5_0 z5_1 z5_2 z6_0 z7 z8_0 z8_1 z8_2 z9_0 z9_1 z10_0 z10_1 z10_2 hwz0_0 hwz0_1 hw1 hw2 (len_of 24 hmz3_0 (by kernel_rfl)) hwz3_0 (len_of 24 hmz4_0 (by kernel_rfl)) hwz4_0 hwz5_0 hwz5_1 hwz5_2 (len_of 24 hmz6_0 (by kernel_rfl)) hwz6_0 hw7 hwz8_0 hwz8_1 hwz8_2 hwz9_0 hwz9_1 hwz10_0 hwz10_1 hwz10_2
  have hp := laws_FnSnailsHiddenOfAll.k (n := k) (Nat.le_refl _) z0_0 z0_1 z1 z2 (z3_0.map (mkN 3)) (z4_0.map (mkN 3)) z5_0 z5_1 z5_2 (z6_0.map (mkN 3)) z7 z8_0 z8_1 z8_2 z9_0 z9_1 z10_0 z10_1 z10_2 _ hk
  refine (law_calls (Γ := ⟨fun _ => True, fun _ => False, fun _ _ _ _ _ _ _ => trivial⟩) fits (prims_ok _) (f := 3) hp rfl rfl rfl (us := [_, _, _, _, _, _, _, _, _, _, _])
    (show ARs (oldSit W) _ _ from ⟨_, _, rfl, ⟨_, rfl, by simp only [CRs]; exact ⟨_, _, rfl, (by simp only [CR]), ⟨_, _, rfl, (by simp only [CR]), rfl⟩⟩⟩, ⟨_, _, rfl, (show CR _ _ _ by simp only [CR]), ⟨_, _, rfl, (show CR _ _ _ by simp only [CR]), ⟨_, _, rfl, ⟨_, rfl, by simp only [CRs]; exact ⟨_, _, rfl, (by simp only [CR]; exact hkz3_0), rfl⟩⟩, ⟨_, _, rfl, ⟨_, rfl, by simp only [CRs]; exact ⟨_, _, rfl, (by simp only [CR]; exact hkz4_0), rfl⟩⟩, ⟨_, _, rfl, ⟨_, rfl, by simp only [CRs]; exact ⟨_, _, rfl, (by simp only [CR]), ⟨_, _, rfl, (by simp only [CR]), ⟨_, _, rfl, (by simp only [CR]), rfl⟩⟩⟩⟩, ⟨_, _, rfl, ⟨_, rfl, by simp only [CRs]; exact ⟨_, _, rfl, (by simp only [CR]; exact hkz6_0), rfl⟩⟩, ⟨_, _, rfl, (show CR _ _ _ by simp only [CR]), ⟨_, _, rfl, ⟨_, rfl, by simp only [CRs]; exact ⟨_, _, rfl, (by simp only [CR]), ⟨_, _, rfl, (by simp only [CR]), ⟨_, _, rfl, (by simp only [CR]), rfl⟩⟩⟩⟩, ⟨_, _, rfl, ⟨_, rfl, by simp only [CRs]; exact ⟨_, _, rfl, (by simp only [CR]), ⟨_, _, rfl, (by simp only [CR]), rfl⟩⟩⟩, ⟨_, _, rfl, ⟨_, rfl, by simp only [CRs]; exact ⟨_, _, rfl, (by simp only [CR]), ⟨_, _, rfl, (by simp only [CR]), ⟨_, _, rfl, (by simp only [CR]), rfl⟩⟩⟩⟩, rfl⟩⟩⟩⟩⟩⟩⟩⟩⟩⟩⟩) trivial (fun _ h => h.elim)).mono ?_
  rintro e W' ⟨rfl, bel0⟩
  have bel : Below W.heap.size W W' := bel0
  exact ⟨_, rfl, _, _, _, [], _, [], hW', trodAll_mk1 (shut_bool Try.underlying4 _), (trodAll_cons_mk (Below.trod laidOut (by kernel_rfl) (of_decide_eq_true (by kernel_rfl)) k0 bel lt0) (trodAll_cons_mk (shut_int Try.underlying3 hw1) (trodAll_cons_mk (shut_int Try.underlying3 hw2) (trodAll_cons_mk (Below.trod laidOut (by kernel_rfl) (of_decide_eq_true (by kernel_rfl)) k3 bel lt3) (trodAll_cons_mk (Below.trod laidOut (by kernel_rfl) (of_decide_eq_true (by kernel_rfl)) k4 bel lt4) (trodAll_cons_mk (Below.trod laidOut (by kernel_rfl) (of_decide_eq_true (by kernel_rfl)) k5 bel lt5) (trodAll_cons_mk (Below.trod laidOut (by kernel_rfl) (of_decide_eq_true (by kernel_rfl)) k6 bel lt6) (trodAll_cons_mk (shut_int Try.underlying3 hw7) (trodAll_cons_mk (Below.trod laidOut (by kernel_rfl) (of_decide_eq_true (by kernel_rfl)) k8 bel lt8) (trodAll_cons_mk (Below.trod laidOut (by kernel_rfl) (of_decide_eq_true (by kernel_rfl)) k9 bel lt9) (trodAll_cons_mk (Below.trod laidOut (by kernel_rfl) (of_decide_eq_true (by kernel_rfl)) k10 bel lt10) trodAll_mk0))))))))))), rfl, bel.frame _, fun h => by cases h⟩
theorem over : Rows.fnSnailsHiddenOfAllRow.holds Try.pinned (OpenSpec.ofChange Rows.fnSnailsHiddenOfAllSpec) :=
  OpenClaim.holds_of_wide 3 Try.f3 rfl rfl rfl rfl rfl rfl rfl ⟨rfl, rfl, rfl, rfl, rfl⟩ rfl rfl rfl rfl rfl (by kernel_rfl) Try.func3 (by kernel_rfl)
    (of_decide_eq_true (by kernel_rfl)) (by unfold Func.isWrapper; first | (rw [if_pos (by decide +kernel)]; kernel_rfl) | (rw [if_neg (by decide +kernel)]; exact ⟨rfl, rfl⟩))
    (fun os started H enc _ => lifted os started H enc)
theorem proved : Rows.FnSnailsHiddenOfAllSaid := over
#print axioms proved
end Go.Proofs.Ytnpfeemkichniaa.Ha
namespace Go.Proofs.Ytnpfeemkichniaa
/-- The row, under a short name, for the claim. -/
theorem fnSnailsHiddenOfAll_holds : Rows.FnSnailsHiddenOfAllSaid := Ha.proved
end Go.Proofs.Ytnpfeemkichniaa
