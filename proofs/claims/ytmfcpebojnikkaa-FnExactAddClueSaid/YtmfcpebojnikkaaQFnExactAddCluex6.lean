-- written by a program of this session, over the form of the kit's print
import Derived.Test.YtmfcpebojnikkaaQFnExactAddCluex0
import Derived.Test.YtmfcpebojnikkaaQFnExactAddCluex1
import Derived.Test.YtmfcpebojnikkaaQFnExactAddCluex2
import Derived.Test.YtmfcpebojnikkaaQFnExactAddCluex4
import Derived.Test.YtmfcpebojnikkaaQFnExactAddCluex5
namespace Go.Proofs.Ytmfcpebojnikkaa.QFnExactAddClue
open Go.RowKit Go.Proofs.YtmfcpebojnikkaaV Go.Proofs.YtmfcpebojnikkaaW.PrintWords Go.Proofs.YtmfcpebojnikkaaW.PrintLast Go.Proofs.YtmfcpebojnikkaaW.PrintMore
attribute [local go_sem] max2_int min2_int max_two min_two max_three min_three max_four min_four   -- for this text's walks alone
set_option linter.unusedVariables false
set_option linter.unusedSimpArgs false

set_option maxHeartbeats 8000000 in
set_option maxRecDepth 100000 in
theorem laws_FnExactAddClue.calls (k : Nat) (A0_0 : Option Addr) (c0_0 : Nat) (l0_0 : List (S34)) (a1_0 : Int) (a1_1 : Int) (a1_2 : Int) (r : Bool) (w : World) (hr0_0 : Kd.C k34 w A0_0 l0_0.length l0_0) (hc0_0 : l0_0.length ≤ c0_0) (h : laws_FnExactAddClue.f k l0_0 a1_0 a1_1 a1_2 = some r) :
  Calls Try.prog 5 #[.agg #[.slice A0_0 l0_0.length c0_0], .agg #[.int .i64 a1_0, .int .i64 a1_1, .int .i64 a1_2]] w fun e w' => e = .returned (.bool r) ∧ Below w.heap.size w w' := by
 have hu24 := Try.underlying24
 have hu34 := Try.underlying34
 have hu29 := Try.underlying29
 have HR0_0 := Aside0.mk hr0_0
 have HC0_0 := Aside0.mk hc0_0
 clear hr0_0 hc0_0
 have HB := Aside0.mk (Below.refl w.heap.size w)
 have H : ((laws_szPuzzle.f l0_0 1048576).bind fun t207 => (if t207 < 0 then (some true) else ((laws_toPuzzle.f k l0_0).bind fun t208 => ((laws_toClue.f a1_0 a1_1 a1_2).bind fun bt211 => ((spec_AddClue.f k t208 bt211.1 bt211.2.1 bt211.2.2).bind fun bt214 => ((laws_toPuzzle.f k l0_0).bind fun t219 => ((laws_toClue.f a1_0 a1_1 a1_2).bind fun bt223 => ((impl_AddClue.f k t219 bt223.1 bt223.2.1 bt223.2.2).bind fun bt226 => ((laws_eqPuzzle.f k bt226.1 bt214.1).bind fun t231 => (if t231 = true then (laws_FnExactAddClue.j0 k bt214.2 bt226.2 (bt226.2 != bt214.2) l0_0 a1_0 a1_1 a1_2 bt214.1 t219 bt226.1) else (laws_FnExactAddClue.j0 k bt214.2 bt226.2 true l0_0 a1_0 a1_1 a1_2 bt214.1 t219 bt226.1))))))))))) = some r := h
 clear h
 replace H := Option.bind_eq_some_iff.mp H
 obtain ⟨t207, A30, H⟩ := H
 replace H : (if t207 < 0 then (some true) else ((laws_toPuzzle.f k l0_0).bind fun t208 => ((laws_toClue.f a1_0 a1_1 a1_2).bind fun bt211 => ((spec_AddClue.f k t208 bt211.1 bt211.2.1 bt211.2.2).bind fun bt214 => ((laws_toPuzzle.f k l0_0).bind fun t219 => ((laws_toClue.f a1_0 a1_1 a1_2).bind fun bt223 => ((impl_AddClue.f k t219 bt223.1 bt223.2.1 bt223.2.2).bind fun bt226 => ((laws_eqPuzzle.f k bt226.1 bt214.1).bind fun t231 => (if t231 = true then (laws_FnExactAddClue.j0 k bt214.2 bt226.2 (bt226.2 != bt214.2) l0_0 a1_0 a1_1 a1_2 bt214.1 t219 bt226.1) else (laws_FnExactAddClue.j0 k bt214.2 bt226.2 true l0_0 a1_0 a1_1 a1_2 bt214.1 t219 bt226.1)))))))))) = some r := H
 have A3 := Aside0.mk A30
 clear A30
 by_cases c4 : t207 < 0
 ·rw [if_pos c4] at H
  have c4b0 : decide (t207 < 0) = true := decide_eq_true c4
  clear c4
  obtain rfl := Option.some.inj H
  go_enter Try.func5, Try.ntmps5
  go_wp2_with (first | ((with_reducible refine gate_dst (N := 2) rfl ?_); refine box_event ?hg (N := 2) ?hd (cs := #[.slice A0_0 l0_0.length c0_0]) (t := 24) ?hr ?_; (case hd => rfl); (case hg => rfl); (case hr => first | (go_simp; done) | (go_simp; rfl)); intro gb205 hg w5 hbox hb; have n0_ := Aside0.mk (below_step (hB HB.out) hb); have n1_ := Aside0.mk (hbox); have n2_ := Aside0.mk ((by rw [hg]; exact (below_size (hB HB.out)) : w.heap.size ≤ gb205)); have n3_ := Aside0.mk ((by rw [hg]; exact (below_size (hB HB.out)) : w.heap.size ≤ gb205)); clear HB; have HB := n0_; have BK205 := n1_; have GW205 := n2_; have GE205 := n3_; clear n0_ n1_ n2_ n3_; clear hb hbox hg) | ((with_reducible refine gate_dst (N := 3) rfl ?_); refine box_event ?hg (N := 3) ?hd (cs := #[.int .i64 a1_0, .int .i64 a1_1, .int .i64 a1_2]) (t := 34) ?hr ?_; (case hd => rfl); (case hg => rfl); (case hr => first | (go_simp; done) | (go_simp; rfl)); intro gb206 hg w6 hbox hb; have n0_ := Aside0.mk (blk_below (g := gb205) (o := .cells #[.slice A0_0 l0_0.length c0_0] 24 (0, 0)) (bk BK205.out) hb); have n1_ := Aside0.mk (below_step (hB HB.out) hb); have n2_ := Aside0.mk (hbox); have n3_ := Aside0.mk ((by rw [hg]; exact (below_size (hB HB.out)) : w.heap.size ≤ gb206)); have n4_ := Aside0.mk ((by rw [hg]; exact (below_size (hB HB.out)) : w.heap.size ≤ gb206)); have n5_ := Aside0.mk ((by rw [hg]; exact Nat.ne_of_lt (blk_lt (g := gb205) (o := .cells #[.slice A0_0 l0_0.length c0_0] 24 (0, 0)) (bk BK205.out)) : gb205 ≠ gb206)); have n6_ := Aside0.mk ((by rw [hg]; exact Nat.ne_of_gt (blk_lt (g := gb205) (o := .cells #[.slice A0_0 l0_0.length c0_0] 24 (0, 0)) (bk BK205.out)) : gb206 ≠ gb205)); clear BK205; clear HB; have BK205 := n0_; have HB := n1_; have BK206 := n2_; have GW206 := n3_; have GE206 := n4_; have NB205_206 := n5_; have NB206_205 := n6_; clear n0_ n1_ n2_ n3_ n4_ n5_ n6_; clear hb hbox hg; have hnb7 := NB205_206.out; have hnc7 := NB206_205.out; have hcz8_0 : w6.cell? ⟨gb205, 0, none⟩ = some (.slice A0_0 l0_0.length c0_0) := (blk_cell BK205.out 0).trans rfl; have hfz8_0 := blk_frozen BK205.out 0) | ((with_reducible refine gate_callee (f := 15) rfl ?_); refine goesL_ (some 18) rfl rfl Try.func15 (by kernel_rfl) rfl #[.agg #[.slice A0_0 l0_0.length c0_0], .int .i64 1048576] rfl (by (try simp only [List.map_toArray, List.map_cons, List.map_nil]); first | done | rfl | (simp only [List.length_drop, List.length_take]; rfl)) ?_; (with_reducible refine (laws_szPuzzle.calls _ _ l0_0 1048576 t207 _ ?side1 ?side2 A3.out).mono ?_); (case side1 => repeat (first | exact (Kd.C_below HR0_0.out HB.out) | (with_reducible refine Kd.C_alloc ?_ _) | (with_reducible refine Kd.C_drewN ?_ _) | (with_reducible refine Kd.C_drew ?_))); (case side2 => exact HC0_0.out); rintro e w9 ⟨rfl, hb⟩; refine ⟨_, rfl, ?_⟩; have n0_ := Aside0.mk (blk_below (g := gb205) (o := .cells #[.slice A0_0 l0_0.length c0_0] 24 (0, 0)) (bk BK205.out) hb); have n1_ := Aside0.mk (blk_below (g := gb206) (o := .cells #[.int .i64 a1_0, .int .i64 a1_1, .int .i64 a1_2] 34 (0, 0)) (bk BK206.out) hb); have n2_ := Aside0.mk (below_step (hB HB.out) hb); clear BK205; clear BK206; clear HB; have BK205 := n0_; have BK206 := n1_; have HB := n2_; clear n0_ n1_ n2_; (try clear hb); (try clear hb2); (try clear hk); (try clear hi)))
  go_ret
  exact ⟨by first | rfl | (simp [errW_none, errW_some] <;> rfl) | (simp [*, errW_none, errW_some] <;> rfl), hB HB.out⟩
 ·rw [if_neg c4] at H
  have c4b0 : decide (t207 < 0) = false := decide_eq_false c4
  clear c4
  replace H := Option.bind_eq_some_iff.mp H
  obtain ⟨t208, A100, H⟩ := H
  replace H : ((laws_toClue.f a1_0 a1_1 a1_2).bind fun bt211 => ((spec_AddClue.f k t208 bt211.1 bt211.2.1 bt211.2.2).bind fun bt214 => ((laws_toPuzzle.f k l0_0).bind fun t219 => ((laws_toClue.f a1_0 a1_1 a1_2).bind fun bt223 => ((impl_AddClue.f k t219 bt223.1 bt223.2.1 bt223.2.2).bind fun bt226 => ((laws_eqPuzzle.f k bt226.1 bt214.1).bind fun t231 => (if t231 = true then (laws_FnExactAddClue.j0 k bt214.2 bt226.2 (bt226.2 != bt214.2) l0_0 a1_0 a1_1 a1_2 bt214.1 t219 bt226.1) else (laws_FnExactAddClue.j0 k bt214.2 bt226.2 true l0_0 a1_0 a1_1 a1_2 bt214.1 t219 bt226.1)))))))) = some r := H
  have A10 := Aside0.mk A100
  clear A100
  replace H := Option.bind_eq_some_iff.mp H
  obtain ⟨⟨t211, t212, t213⟩, A110, H⟩ := H
  replace H : ((spec_AddClue.f k t208 t211 t212 t213).bind fun bt214 => ((laws_toPuzzle.f k l0_0).bind fun t219 => ((laws_toClue.f a1_0 a1_1 a1_2).bind fun bt223 => ((impl_AddClue.f k t219 bt223.1 bt223.2.1 bt223.2.2).bind fun bt226 => ((laws_eqPuzzle.f k bt226.1 bt214.1).bind fun t231 => (if t231 = true then (laws_FnExactAddClue.j0 k bt214.2 bt226.2 (bt226.2 != bt214.2) l0_0 a1_0 a1_1 a1_2 bt214.1 t219 bt226.1) else (laws_FnExactAddClue.j0 k bt214.2 bt226.2 true l0_0 a1_0 a1_1 a1_2 bt214.1 t219 bt226.1))))))) = some r := H
  have A11 := Aside0.mk A110
  clear A110
  replace H := Option.bind_eq_some_iff.mp H
  obtain ⟨⟨t214, t217⟩, A120, H⟩ := H
  replace H : ((laws_toPuzzle.f k l0_0).bind fun t219 => ((laws_toClue.f a1_0 a1_1 a1_2).bind fun bt223 => ((impl_AddClue.f k t219 bt223.1 bt223.2.1 bt223.2.2).bind fun bt226 => ((laws_eqPuzzle.f k bt226.1 t214).bind fun t231 => (if t231 = true then (laws_FnExactAddClue.j0 k t217 bt226.2 (bt226.2 != t217) l0_0 a1_0 a1_1 a1_2 t214 t219 bt226.1) else (laws_FnExactAddClue.j0 k t217 bt226.2 true l0_0 a1_0 a1_1 a1_2 t214 t219 bt226.1)))))) = some r := H
  have A12 := Aside0.mk A120
  clear A120
  replace H := Option.bind_eq_some_iff.mp H
  obtain ⟨t219, A130, H⟩ := H
  replace H : ((laws_toClue.f a1_0 a1_1 a1_2).bind fun bt223 => ((impl_AddClue.f k t219 bt223.1 bt223.2.1 bt223.2.2).bind fun bt226 => ((laws_eqPuzzle.f k bt226.1 t214).bind fun t231 => (if t231 = true then (laws_FnExactAddClue.j0 k t217 bt226.2 (bt226.2 != t217) l0_0 a1_0 a1_1 a1_2 t214 t219 bt226.1) else (laws_FnExactAddClue.j0 k t217 bt226.2 true l0_0 a1_0 a1_1 a1_2 t214 t219 bt226.1))))) = some r := H
  have A13 := Aside0.mk A130
  clear A130
  replace H := Option.bind_eq_some_iff.mp H
  obtain ⟨⟨t223, t224, t225⟩, A140, H⟩ := H
  replace H : ((impl_AddClue.f k t219 t223 t224 t225).bind fun bt226 => ((laws_eqPuzzle.f k bt226.1 t214).bind fun t231 => (if t231 = true then (laws_FnExactAddClue.j0 k t217 bt226.2 (bt226.2 != t217) l0_0 a1_0 a1_1 a1_2 t214 t219 bt226.1) else (laws_FnExactAddClue.j0 k t217 bt226.2 true l0_0 a1_0 a1_1 a1_2 t214 t219 bt226.1)))) = some r := H
  have A14 := Aside0.mk A140
  clear A140
  replace H := Option.bind_eq_some_iff.mp H
  obtain ⟨⟨t226, t229⟩, A150, H⟩ := H
  replace H : ((laws_eqPuzzle.f k t226 t214).bind fun t231 => (if t231 = true then (laws_FnExactAddClue.j0 k t217 t229 (t229 != t217) l0_0 a1_0 a1_1 a1_2 t214 t219 t226) else (laws_FnExactAddClue.j0 k t217 t229 true l0_0 a1_0 a1_1 a1_2 t214 t219 t226))) = some r := H
  have A15 := Aside0.mk A150
  clear A150
  have HC16 := Aside0.mk H
  clear H
  go_enter Try.func5, Try.ntmps5
  try go_wp2_with (first | ((with_reducible refine gate_dst (N := 2) rfl ?_); refine box_event ?hg (N := 2) ?hd (cs := #[.slice A0_0 l0_0.length c0_0]) (t := 24) ?hr ?_; (case hd => rfl); (case hg => rfl); (case hr => first | (go_simp; done) | (go_simp; rfl)); intro gb205 hg w17 hbox hb; have n0_ := Aside0.mk (below_step (hB HB.out) hb); have n1_ := Aside0.mk (hbox); have n2_ := Aside0.mk ((by rw [hg]; exact (below_size (hB HB.out)) : w.heap.size ≤ gb205)); have n3_ := Aside0.mk ((by rw [hg]; exact (below_size (hB HB.out)) : w.heap.size ≤ gb205)); clear HB; have HB := n0_; have BK205 := n1_; have GW205 := n2_; have GE205 := n3_; clear n0_ n1_ n2_ n3_; clear hb hbox hg) | ((with_reducible refine gate_dst (N := 3) rfl ?_); refine box_event ?hg (N := 3) ?hd (cs := #[.int .i64 a1_0, .int .i64 a1_1, .int .i64 a1_2]) (t := 34) ?hr ?_; (case hd => rfl); (case hg => rfl); (case hr => first | (go_simp; done) | (go_simp; rfl)); intro gb206 hg w18 hbox hb; have n0_ := Aside0.mk (blk_below (g := gb205) (o := .cells #[.slice A0_0 l0_0.length c0_0] 24 (0, 0)) (bk BK205.out) hb); have n1_ := Aside0.mk (below_step (hB HB.out) hb); have n2_ := Aside0.mk (hbox); have n3_ := Aside0.mk ((by rw [hg]; exact (below_size (hB HB.out)) : w.heap.size ≤ gb206)); have n4_ := Aside0.mk ((by rw [hg]; exact (below_size (hB HB.out)) : w.heap.size ≤ gb206)); have n5_ := Aside0.mk ((by rw [hg]; exact Nat.ne_of_lt (blk_lt (g := gb205) (o := .cells #[.slice A0_0 l0_0.length c0_0] 24 (0, 0)) (bk BK205.out)) : gb205 ≠ gb206)); have n6_ := Aside0.mk ((by rw [hg]; exact Nat.ne_of_gt (blk_lt (g := gb205) (o := .cells #[.slice A0_0 l0_0.length c0_0] 24 (0, 0)) (bk BK205.out)) : gb206 ≠ gb205)); clear BK205; clear HB; have BK205 := n0_; have HB := n1_; have BK206 := n2_; have GW206 := n3_; have GE206 := n4_; have NB205_206 := n5_; have NB206_205 := n6_; clear n0_ n1_ n2_ n3_ n4_ n5_ n6_; clear hb hbox hg; have hnb19 := NB205_206.out; have hnc19 := NB206_205.out; have hcz20_0 : w18.cell? ⟨gb205, 0, none⟩ = some (.slice A0_0 l0_0.length c0_0) := (blk_cell BK205.out 0).trans rfl; have hfz20_0 := blk_frozen BK205.out 0) | ((with_reducible refine gate_callee (f := 15) rfl ?_); refine goesL_ (some 18) rfl rfl Try.func15 (by kernel_rfl) rfl #[.agg #[.slice A0_0 l0_0.length c0_0], .int .i64 1048576] rfl (by (try simp only [List.map_toArray, List.map_cons, List.map_nil]); first | done | rfl | (simp only [List.length_drop, List.length_take]; rfl)) ?_; (with_reducible refine (laws_szPuzzle.calls _ _ l0_0 1048576 t207 _ ?side1 ?side2 A3.out).mono ?_); (case side1 => repeat (first | exact (Kd.C_below HR0_0.out HB.out) | (with_reducible refine Kd.C_alloc ?_ _) | (with_reducible refine Kd.C_drewN ?_ _) | (with_reducible refine Kd.C_drew ?_))); (case side2 => exact HC0_0.out); rintro e w21 ⟨rfl, hb⟩; refine ⟨_, rfl, ?_⟩; have n0_ := Aside0.mk (blk_below (g := gb205) (o := .cells #[.slice A0_0 l0_0.length c0_0] 24 (0, 0)) (bk BK205.out) hb); have n1_ := Aside0.mk (blk_below (g := gb206) (o := .cells #[.int .i64 a1_0, .int .i64 a1_1, .int .i64 a1_2] 34 (0, 0)) (bk BK206.out) hb); have n2_ := Aside0.mk (below_step (hB HB.out) hb); clear BK205; clear BK206; clear HB; have BK205 := n0_; have BK206 := n1_; have HB := n2_; clear n0_ n1_ n2_; (try clear hb); (try clear hb2); (try clear hk); (try clear hi)))
  have n0_ := Aside0.mk (blk_drew BK205.out)
  have n1_ := Aside0.mk (blk_drew BK206.out)
  have n2_ := Aside0.mk (below_drew1 HB.out)
  clear BK205
  clear BK206
  clear HB
  have BK205 := n0_
  have BK206 := n1_
  have HB := n2_
  clear n0_ n1_ n2_
  refine start_ (n := 11) (S := fun w' => w'.cell? ⟨gb205, 0, none⟩ = some (.slice A0_0 l0_0.length c0_0) ∧ w'.cell? ⟨gb206, 0, none⟩ = some (.int .i64 a1_0) ∧ w'.cell? ⟨gb206, 1, none⟩ = some (.int .i64 a1_1) ∧ w'.cell? ⟨gb206, 2, none⟩ = some (.int .i64 a1_2)) (ds := []) #[false, false, false, false, false, false, false, false, false, false, false] (by kernel_rfl) rfl rfl ⟨(blk_cell BK205.out 0).trans rfl, (blk_cell BK206.out 0).trans rfl, (blk_cell BK206.out 1).trans rfl, (blk_cell BK206.out 2).trans rfl⟩ (fun hHeld => ?_); refine with_tabW laws_FnExactAddClue.tab5 laws_FnExactAddClue.bits5 (fun HT_ HW_ => ?_)
  generalize w21.drew = w22 at BK205 BK206 HB hHeld ⊢
  refine take_ (i := 0) (N := some 22) (v := ?_) (a' := ?_) #[true, false, false, false, false, false, false, false, false, false, false] rfl rfl (take_ofW HT_.out HW_.out (by kernel_rfl)) (fun _ _ _ h => h) (Or.inl ⟨by rfl, ?_⟩) hHeld ?_ ?_
  rotate_left
  ·rintro w' ⟨s0, s1, s2, s3⟩
   go_simp
   with_reducible rfl
  rotate_left
  ·simp only [Act.put, List.setIfInBounds_toArray, List.set_cons_zero, List.set_cons_succ, i64_w, i32_w]
   rfl
  refine take_ (i := 2) (N := some 24) (v := ?_) (a' := ?_) #[true, false, true, false, false, false, false, false, false, false, false] rfl rfl (take_ofW HT_.out HW_.out (by kernel_rfl)) (fun _ _ _ h => h) (Or.inl ⟨by rfl, ?_⟩) hHeld ?_ ?_
  rotate_left
  ·rintro w' ⟨s0, s1, s2, s3⟩
   go_simp
   with_reducible rfl
  rotate_left
  ·simp only [Act.put, List.setIfInBounds_toArray, List.set_cons_zero, List.set_cons_succ, i64_w, i32_w]
   rfl
  refine join_ (σ := Value × Value × Nat) 2 #[true, true, true, true, true, true, true, true, true, false, false] (fun s_ => [(23, .agg #[s_.1]), (25, .agg #[.int .i64 t211, .int .i64 t212, .int .i64 t213]), (26, .tuple #[.agg #[s_.2.1], .bool t217]), (6, .pointer (some ⟨s_.2.2, 0, none⟩)), (21, .tuple #[.agg #[s_.2.1], .bool t217]), (27, .agg #[s_.2.1]), (28, .bool t217)]) (fun s_ w' => (w'.cell? ⟨gb205, 0, none⟩ = some (.slice A0_0 l0_0.length c0_0) ∧ w'.cell? ⟨gb206, 0, none⟩ = some (.int .i64 a1_0) ∧ w'.cell? ⟨gb206, 1, none⟩ = some (.int .i64 a1_1) ∧ w'.cell? ⟨gb206, 2, none⟩ = some (.int .i64 a1_2)) ∧ (Kd.R k39 39 w' w.heap.size (fun k_ => some k_ ≠ (s_.2.1 : Value).ownBlock) s_.1 t208) ∧ (Kd.R k39 39 w' w.heap.size (fun k_ => some k_ ≠ (s_.1 : Value).ownBlock) s_.2.1 t214) ∧ (w'.heap[gb205]? = some (.cells #[.slice A0_0 l0_0.length c0_0] 24 (0, 0))) ∧ (w'.heap[gb206]? = some (.cells #[.int .i64 a1_0, .int .i64 a1_1, .int .i64 a1_2] 34 (0, 0))) ∧ (w'.heap[s_.2.2]? = some (.cells #[.slice none 0 0] 29 (0, 0))) ∧ (w.heap.size ≤ s_.2.2) ∧ (w.heap.size ≤ s_.2.2) ∧ (gb205 ≠ s_.2.2) ∧ (s_.2.2 ≠ gb205) ∧ (gb206 ≠ s_.2.2) ∧ (s_.2.2 ≠ gb206) ∧ (Below w.heap.size w w')) ?_ ?_
  rotate_left
  ·intro hCont
   refine two_ (i := 1) (j := 8) (Ni := some 23) (Nj := some 6) #[true, true, true, false, false, false, false, false, false, false, false] #[true, false, true, false, false, false, false, false, true, false, false] rfl rfl rfl rfl (two_of HT_.out (by kernel_rfl)) (by decide) (by decide) (fun K hK => ?_) (fun K hK => ?_)
   ·skip
    refine goes_ Try.func17 (by kernel_rfl) rfl #[.agg #[.slice A0_0 l0_0.length c0_0]] (by rfl) rfl rfl (by (try simp only [List.map_toArray, List.map_cons, List.map_nil]); first | done | rfl | (simp only [List.length_drop, List.length_take]; rfl)) ?_
    with_reducible refine (laws_toPuzzle.calls k _ _ l0_0 t208 _ ?side1 ?side2 A10.out).mono ?_
    (case side1 => repeat (first | exact (Kd.C_below HR0_0.out HB.out) | (with_reducible refine Kd.C_alloc ?_ _) | (with_reducible refine Kd.C_drewN ?_ _) | (with_reducible refine Kd.C_drew ?_)))
    (case side2 => exact HC0_0.out)
    rintro e w23 ⟨v209, rfl, ho0, hb⟩
    refine ⟨_, rfl, ?_⟩
    have n0_ := Aside0.mk (Kd.R_lower ho0 (below_size (hB HB.out)))
    have n1_ := Aside0.mk (blk_below (g := gb205) (o := .cells #[.slice A0_0 l0_0.length c0_0] 24 (0, 0)) (bk BK205.out) hb)
    have n2_ := Aside0.mk (blk_below (g := gb206) (o := .cells #[.int .i64 a1_0, .int .i64 a1_1, .int .i64 a1_2] 34 (0, 0)) (bk BK206.out) hb)
    have n3_ := Aside0.mk (below_step (hB HB.out) hb)
    clear BK205
    clear BK206
    clear HB
    have HO210 := n0_
    have BK205 := n1_
    have BK206 := n2_
    have HB := n3_
    clear n0_ n1_ n2_ n3_
    (try clear hb)
    (try clear hb2)
    (try clear hk)
    (try clear hi)
    (try clear ho0)
    refine hK.out _ _ ⟨(blk_cell BK205.out 0).trans rfl, (blk_cell BK206.out 0).trans rfl, (blk_cell BK206.out 1).trans rfl, (blk_cell BK206.out 2).trans rfl⟩ (fun hHeld => ?_)
    clear hK K
    refine norm_ (a' := ?_) ?_ ?_
    rotate_left
    ·show Act.put _ (some 23) _ = _
     simp only [Act.put, List.setIfInBounds_toArray, List.set_cons_zero, List.set_cons_succ, i64_w, i32_w]
     rfl
    refine two_ (i := 3) (j := 8) (Ni := some 25) (Nj := some 6) #[true, true, true, true, false, false, false, false, false, false, false] #[true, true, true, false, false, false, false, false, true, false, false] rfl rfl rfl rfl (two_of HT_.out (by kernel_rfl)) (by decide) (by decide) (fun K hK => ?_) (fun K hK => ?_)
    ·skip
     refine goes_ Try.func21 (by kernel_rfl) rfl #[.agg #[.int .i64 a1_0, .int .i64 a1_1, .int .i64 a1_2]] (by rfl) rfl rfl (by (try simp only [List.map_toArray, List.map_cons, List.map_nil]); first | done | rfl | (simp only [List.length_drop, List.length_take]; rfl)) ?_
     with_reducible refine (laws_toClue.calls a1_0 a1_1 a1_2 t211 t212 t213 _ A11.out).mono ?_
     rintro e w24 ⟨rfl, hb⟩
     refine ⟨_, rfl, ?_⟩
     have n0_ := Aside0.mk (Kd.R_below (rk HO210.out) hb)
     have n1_ := Aside0.mk (blk_below (g := gb205) (o := .cells #[.slice A0_0 l0_0.length c0_0] 24 (0, 0)) (bk BK205.out) hb)
     have n2_ := Aside0.mk (blk_below (g := gb206) (o := .cells #[.int .i64 a1_0, .int .i64 a1_1, .int .i64 a1_2] 34 (0, 0)) (bk BK206.out) hb)
     have n3_ := Aside0.mk (below_step (hB HB.out) hb)
     clear HO210
     clear BK205
     clear BK206
     clear HB
     have HO210 := n0_
     have BK205 := n1_
     have BK206 := n2_
     have HB := n3_
     clear n0_ n1_ n2_ n3_
     (try clear hb)
     (try clear hb2)
     (try clear hk)
     (try clear hi)
     obtain ⟨Ao25, co25, eo25⟩ := Kd.R_slice HO210.out
     (first | subst eo25 | (injection eo25 with f1_ f2_ f3_; have f4_ := f1_.symm; have f5_ := f3_.symm; clear f1_ f2_ f3_; subst f4_; subst f5_))
     refine hK.out _ _ ⟨(blk_cell BK205.out 0).trans rfl, (blk_cell BK206.out 0).trans rfl, (blk_cell BK206.out 1).trans rfl, (blk_cell BK206.out 2).trans rfl⟩ (fun hHeld => ?_)
     clear hK K
     refine norm_ (a' := ?_) ?_ ?_
     rotate_left
     ·show Act.put _ (some 25) _ = _
      simp only [Act.put, List.setIfInBounds_toArray, List.set_cons_zero, List.set_cons_succ, i64_w, i32_w]
      rfl
     refine two_ (i := 4) (j := 8) (Ni := some 26) (Nj := some 6) #[true, true, true, true, true, false, false, false, false, false, false] #[true, true, true, true, false, false, false, false, true, false, false] rfl rfl rfl rfl (two_of HT_.out (by kernel_rfl)) (by decide) (by decide) (fun K hK => ?_) (fun K hK => ?_)
     ·skip
      refine goes_ Try.func24 (by kernel_rfl) rfl #[.agg #[.slice Ao25 t208.length co25], .agg #[.int .i64 t211, .int .i64 t212, .int .i64 t213]] (by rfl) rfl rfl (by (try simp only [List.map_toArray, List.map_cons, List.map_nil]); first | done | rfl | (simp only [List.length_drop, List.length_take]; rfl)) ?_
      with_reducible refine (spec_AddClue.calls k _ _ t208 t211 t212 t213 t214 t217 _ ?side1 ?side2 A12.out).mono ?_
      (case side1 => repeat (first | exact (Kd.R_reads' HO210.out).2.2 | (with_reducible refine Kd.C_alloc ?_ _) | (with_reducible refine Kd.C_drewN ?_ _) | (with_reducible refine Kd.C_drew ?_)))
      (case side2 => exact (Kd.R_reads' HO210.out).2.1)
      rintro e w26 ⟨v215, rfl, ho0, hb⟩
      refine ⟨_, rfl, ?_⟩
      have n0_ := Aside0.mk (Kd.R_elder' (rk HO210.out) (Kd.R_base ho0) hb)
      have n1_ := Aside0.mk (Kd.R_lower (Kd.R_new' ho0 (Kd.R_lt (rk HO210.out))) (below_size (hB HB.out)))
      have n2_ := Aside0.mk (blk_below (g := gb205) (o := .cells #[.slice A0_0 l0_0.length c0_0] 24 (0, 0)) (bk BK205.out) hb)
      have n3_ := Aside0.mk (blk_below (g := gb206) (o := .cells #[.int .i64 a1_0, .int .i64 a1_1, .int .i64 a1_2] 34 (0, 0)) (bk BK206.out) hb)
      have n4_ := Aside0.mk (below_step (hB HB.out) hb)
      clear HO210
      clear BK205
      clear BK206
      clear HB
      have HO210 := n0_
      have HO216 := n1_
      have BK205 := n2_
      have BK206 := n3_
      have HB := n4_
      clear n0_ n1_ n2_ n3_ n4_
      (try clear hb)
      (try clear hb2)
      (try clear hk)
      (try clear hi)
      (try clear ho0)
      refine hK.out _ _ ⟨(blk_cell BK205.out 0).trans rfl, (blk_cell BK206.out 0).trans rfl, (blk_cell BK206.out 1).trans rfl, (blk_cell BK206.out 2).trans rfl⟩ (fun hHeld => ?_)
      clear hK K
      refine norm_ (a' := ?_) ?_ ?_
      rotate_left
      ·show Act.put _ (some 26) _ = _
       simp only [Act.put, List.setIfInBounds_toArray, List.set_cons_zero, List.set_cons_succ, i64_w, i32_w]
       rfl
      refine pure_ (i := 5) (N := some 21) (v := ?_) (a' := ?_) #[true, true, true, true, true, true, false, false, false, false, false] rfl rfl (any_of HT_.out (by kernel_rfl)) (fun _ _ _ h => h) (Or.inl ⟨by rfl, ?_⟩) ?_ ?_
      rotate_left
      ·intro w'
       go_simp
       with_reducible rfl
      rotate_left
      ·simp only [Act.put, List.setIfInBounds_toArray, List.set_cons_zero, List.set_cons_succ, i64_w, i32_w]
       rfl
      refine pure_ (i := 6) (N := some 27) (v := ?_) (a' := ?_) #[true, true, true, true, true, true, true, false, false, false, false] rfl rfl (any_of HT_.out (by kernel_rfl)) (fun _ _ _ h => h) (Or.inl ⟨by rfl, ?_⟩) ?_ ?_
      rotate_left
      ·intro w'
       go_simp
       with_reducible rfl
      rotate_left
      ·simp only [Act.put, List.setIfInBounds_toArray, List.set_cons_zero, List.set_cons_succ, i64_w, i32_w]
       rfl
      refine pure_ (i := 7) (N := some 28) (v := ?_) (a' := ?_) #[true, true, true, true, true, true, true, true, false, false, false] rfl rfl (any_of HT_.out (by kernel_rfl)) (fun _ _ _ h => h) (Or.inl ⟨by rfl, ?_⟩) ?_ ?_
      rotate_left
      ·intro w'
       go_simp
       with_reducible rfl
      rotate_left
      ·simp only [Act.put, List.setIfInBounds_toArray, List.set_cons_zero, List.set_cons_succ, i64_w, i32_w]
       rfl
      refine one_ (i := 8) (N := some 6) #[true, true, true, true, true, true, true, true, true, false, false] rfl rfl (one_of HT_.out (by kernel_rfl)) (by decide) (fun K hK => ?_)
      refine box_step ?hg (N := 6) ?hd (cs := #[.slice none 0 0]) (t := 29) ?hr ?_; (case hd => rfl); (case hg => rfl); (case hr => first | (go_simp; done) | (go_simp; rfl))
      intro gb218 hg w27 hbox hb
      have n0_ := Aside0.mk (Kd.R_below (rk HO210.out) hb)
      have n1_ := Aside0.mk (Kd.R_below (rk HO216.out) hb)
      have n2_ := Aside0.mk (blk_below (g := gb205) (o := .cells #[.slice A0_0 l0_0.length c0_0] 24 (0, 0)) (bk BK205.out) hb)
      have n3_ := Aside0.mk (blk_below (g := gb206) (o := .cells #[.int .i64 a1_0, .int .i64 a1_1, .int .i64 a1_2] 34 (0, 0)) (bk BK206.out) hb)
      have n4_ := Aside0.mk (below_step (hB HB.out) hb)
      have n5_ := Aside0.mk (hbox)
      have n6_ := Aside0.mk ((by rw [hg]; exact (below_size (hB HB.out)) : w.heap.size ≤ gb218))
      have n7_ := Aside0.mk ((by rw [hg]; exact (below_size (hB HB.out)) : w.heap.size ≤ gb218))
      have n8_ := Aside0.mk ((by rw [hg]; exact Nat.ne_of_lt (blk_lt (g := gb205) (o := .cells #[.slice A0_0 l0_0.length c0_0] 24 (0, 0)) (bk BK205.out)) : gb205 ≠ gb218))
      have n9_ := Aside0.mk ((by rw [hg]; exact Nat.ne_of_gt (blk_lt (g := gb205) (o := .cells #[.slice A0_0 l0_0.length c0_0] 24 (0, 0)) (bk BK205.out)) : gb218 ≠ gb205))
      have n10_ := Aside0.mk ((by rw [hg]; exact Nat.ne_of_lt (blk_lt (g := gb206) (o := .cells #[.int .i64 a1_0, .int .i64 a1_1, .int .i64 a1_2] 34 (0, 0)) (bk BK206.out)) : gb206 ≠ gb218))
      have n11_ := Aside0.mk ((by rw [hg]; exact Nat.ne_of_gt (blk_lt (g := gb206) (o := .cells #[.int .i64 a1_0, .int .i64 a1_1, .int .i64 a1_2] 34 (0, 0)) (bk BK206.out)) : gb218 ≠ gb206))
      clear HO210
      clear HO216
      clear BK205
      clear BK206
      clear HB
      have HO210 := n0_
      have HO216 := n1_
      have BK205 := n2_
      have BK206 := n3_
      have HB := n4_
      have BK218 := n5_
      have GW218 := n6_
      have GE218 := n7_
      have NB205_218 := n8_
      have NB218_205 := n9_
      have NB206_218 := n10_
      have NB218_206 := n11_
      clear n0_ n1_ n2_ n3_ n4_ n5_ n6_ n7_ n8_ n9_ n10_ n11_
      clear hb hbox hg
      refine hK.out _ _ ⟨(blk_cell BK205.out 0).trans rfl, (blk_cell BK206.out 0).trans rfl, (blk_cell BK206.out 1).trans rfl, (blk_cell BK206.out 2).trans rfl⟩ (fun hHeld => ?_)
      clear hK K
      refine norm_ (a' := ?_) ?_ ?_
      rotate_left
      ·show Act.put _ (some 6) _ = _
       simp only [Act.put, List.setIfInBounds_toArray, List.set_cons_zero, List.set_cons_succ, i64_w, i32_w]
       rfl
      exact norm_ (by simp only [putAll, Act.put, List.setIfInBounds_toArray, List.set_cons_zero, List.set_cons_succ]) (hCont (.slice Ao25 t208.length co25, v215, gb218) _ ⟨hHeld, (rk (Kd.R_mono HO210.out (fun _ hk => hk.2))), (rk (Kd.R_mono HO216.out (fun _ hk => hk.2))), (bk BK205.out), (bk BK206.out), (bk BK218.out), GW218.out, GE218.out, NB205_218.out, NB218_205.out, NB206_218.out, NB218_206.out, (hB HB.out)⟩)
     ·skip
      refine box_step ?hg (N := 6) ?hd (cs := #[.slice none 0 0]) (t := 29) ?hr ?_; (case hd => rfl); (case hg => rfl); (case hr => first | (go_simp; done) | (go_simp; rfl))
      intro gb218 hg w25 hbox hb
      have n0_ := Aside0.mk (Kd.R_below (rk HO210.out) hb)
      have n1_ := Aside0.mk (blk_below (g := gb205) (o := .cells #[.slice A0_0 l0_0.length c0_0] 24 (0, 0)) (bk BK205.out) hb)
      have n2_ := Aside0.mk (blk_below (g := gb206) (o := .cells #[.int .i64 a1_0, .int .i64 a1_1, .int .i64 a1_2] 34 (0, 0)) (bk BK206.out) hb)
      have n3_ := Aside0.mk (below_step (hB HB.out) hb)
      have n4_ := Aside0.mk (hbox)
      have n5_ := Aside0.mk ((by rw [hg]; exact (below_size (hB HB.out)) : w.heap.size ≤ gb218))
      have n6_ := Aside0.mk ((by rw [hg]; exact (below_size (hB HB.out)) : w.heap.size ≤ gb218))
      have n7_ := Aside0.mk ((by rw [hg]; exact Nat.ne_of_lt (blk_lt (g := gb205) (o := .cells #[.slice A0_0 l0_0.length c0_0] 24 (0, 0)) (bk BK205.out)) : gb205 ≠ gb218))
      have n8_ := Aside0.mk ((by rw [hg]; exact Nat.ne_of_gt (blk_lt (g := gb205) (o := .cells #[.slice A0_0 l0_0.length c0_0] 24 (0, 0)) (bk BK205.out)) : gb218 ≠ gb205))
      have n9_ := Aside0.mk ((by rw [hg]; exact Nat.ne_of_lt (blk_lt (g := gb206) (o := .cells #[.int .i64 a1_0, .int .i64 a1_1, .int .i64 a1_2] 34 (0, 0)) (bk BK206.out)) : gb206 ≠ gb218))
      have n10_ := Aside0.mk ((by rw [hg]; exact Nat.ne_of_gt (blk_lt (g := gb206) (o := .cells #[.int .i64 a1_0, .int .i64 a1_1, .int .i64 a1_2] 34 (0, 0)) (bk BK206.out)) : gb218 ≠ gb206))
      clear HO210
      clear BK205
      clear BK206
      clear HB
      have HO210 := n0_
      have BK205 := n1_
      have BK206 := n2_
      have HB := n3_
      have BK218 := n4_
      have GW218 := n5_
      have GE218 := n6_
      have NB205_218 := n7_
      have NB218_205 := n8_
      have NB206_218 := n9_
      have NB218_206 := n10_
      clear n0_ n1_ n2_ n3_ n4_ n5_ n6_ n7_ n8_ n9_ n10_
      clear hb hbox hg
      obtain ⟨Ao26, co26, eo26⟩ := Kd.R_slice HO210.out
      (first | subst eo26 | (injection eo26 with f1_ f2_ f3_; have f4_ := f1_.symm; have f5_ := f3_.symm; clear f1_ f2_ f3_; subst f4_; subst f5_))
      refine hK.out _ _ ⟨(blk_cell BK205.out 0).trans rfl, (blk_cell BK206.out 0).trans rfl, (blk_cell BK206.out 1).trans rfl, (blk_cell BK206.out 2).trans rfl⟩ (fun hHeld => ?_)
      clear hK K
      refine norm_ (a' := ?_) ?_ ?_
      rotate_left
      ·show Act.put _ (some 6) _ = _
       simp only [Act.put, List.setIfInBounds_toArray, List.set_cons_zero, List.set_cons_succ, i64_w, i32_w]
       rfl
      refine one_ (i := 4) (N := some 26) #[true, true, true, true, true, false, false, false, true, false, false] rfl rfl (one_of HT_.out (by kernel_rfl)) (by decide) (fun K hK => ?_)
      refine goes_ Try.func24 (by kernel_rfl) rfl #[.agg #[.slice Ao26 t208.length co26], .agg #[.int .i64 t211, .int .i64 t212, .int .i64 t213]] (by rfl) rfl rfl (by (try simp only [List.map_toArray, List.map_cons, List.map_nil]); first | done | rfl | (simp only [List.length_drop, List.length_take]; rfl)) ?_
      with_reducible refine (spec_AddClue.calls k _ _ t208 t211 t212 t213 t214 t217 _ ?side1 ?side2 A12.out).mono ?_
      (case side1 => repeat (first | exact (Kd.R_reads' HO210.out).2.2 | (with_reducible refine Kd.C_alloc ?_ _) | (with_reducible refine Kd.C_drewN ?_ _) | (with_reducible refine Kd.C_drew ?_)))
      (case side2 => exact (Kd.R_reads' HO210.out).2.1)
      rintro e w27 ⟨v215, rfl, ho0, hb⟩
      refine ⟨_, rfl, ?_⟩
      have n0_ := Aside0.mk (Kd.R_elder' (rk HO210.out) (Kd.R_base ho0) hb)
      have n1_ := Aside0.mk (Kd.R_lower (Kd.R_new' ho0 (Kd.R_lt (rk HO210.out))) (below_size (hB HB.out)))
      have n2_ := Aside0.mk (blk_below (g := gb205) (o := .cells #[.slice A0_0 l0_0.length c0_0] 24 (0, 0)) (bk BK205.out) hb)
      have n3_ := Aside0.mk (blk_below (g := gb206) (o := .cells #[.int .i64 a1_0, .int .i64 a1_1, .int .i64 a1_2] 34 (0, 0)) (bk BK206.out) hb)
      have n4_ := Aside0.mk (blk_below (g := gb218) (o := .cells #[.slice none 0 0] 29 (0, 0)) (bk BK218.out) hb)
      have n5_ := Aside0.mk (below_step (hB HB.out) hb)
      clear HO210
      clear BK205
      clear BK206
      clear BK218
      clear HB
      have HO210 := n0_
      have HO216 := n1_
      have BK205 := n2_
      have BK206 := n3_
      have BK218 := n4_
      have HB := n5_
      clear n0_ n1_ n2_ n3_ n4_ n5_
      (try clear hb)
      (try clear hb2)
      (try clear hk)
      (try clear hi)
      (try clear ho0)
      refine hK.out _ _ ⟨(blk_cell BK205.out 0).trans rfl, (blk_cell BK206.out 0).trans rfl, (blk_cell BK206.out 1).trans rfl, (blk_cell BK206.out 2).trans rfl⟩ (fun hHeld => ?_)
      clear hK K
      refine norm_ (a' := ?_) ?_ ?_
      rotate_left
      ·show Act.put _ (some 26) _ = _
       simp only [Act.put, List.setIfInBounds_toArray, List.set_cons_zero, List.set_cons_succ, i64_w, i32_w]
       rfl
      refine pure_ (i := 5) (N := some 21) (v := ?_) (a' := ?_) #[true, true, true, true, true, true, false, false, true, false, false] rfl rfl (any_of HT_.out (by kernel_rfl)) (fun _ _ _ h => h) (Or.inl ⟨by rfl, ?_⟩) ?_ ?_
      rotate_left
      ·intro w'
       go_simp
       with_reducible rfl
      rotate_left
      ·simp only [Act.put, List.setIfInBounds_toArray, List.set_cons_zero, List.set_cons_succ, i64_w, i32_w]
       rfl
      refine pure_ (i := 6) (N := some 27) (v := ?_) (a' := ?_) #[true, true, true, true, true, true, true, false, true, false, false] rfl rfl (any_of HT_.out (by kernel_rfl)) (fun _ _ _ h => h) (Or.inl ⟨by rfl, ?_⟩) ?_ ?_
      rotate_left
      ·intro w'
       go_simp
       with_reducible rfl
      rotate_left
      ·simp only [Act.put, List.setIfInBounds_toArray, List.set_cons_zero, List.set_cons_succ, i64_w, i32_w]
       rfl
      refine pure_ (i := 7) (N := some 28) (v := ?_) (a' := ?_) #[true, true, true, true, true, true, true, true, true, false, false] rfl rfl (any_of HT_.out (by kernel_rfl)) (fun _ _ _ h => h) (Or.inl ⟨by rfl, ?_⟩) ?_ ?_
      rotate_left
      ·intro w'
       go_simp
       with_reducible rfl
      rotate_left
      ·simp only [Act.put, List.setIfInBounds_toArray, List.set_cons_zero, List.set_cons_succ, i64_w, i32_w]
       rfl
      exact norm_ (by simp only [putAll, Act.put, List.setIfInBounds_toArray, List.set_cons_zero, List.set_cons_succ]) (hCont (.slice Ao26 t208.length co26, v215, gb218) _ ⟨hHeld, (rk (Kd.R_mono HO210.out (fun _ hk => hk.2))), (rk (Kd.R_mono HO216.out (fun _ hk => hk.2))), (bk BK205.out), (bk BK206.out), (bk BK218.out), GW218.out, GE218.out, NB205_218.out, NB218_205.out, NB206_218.out, NB218_206.out, (hB HB.out)⟩)
    ·skip
     refine box_step ?hg (N := 6) ?hd (cs := #[.slice none 0 0]) (t := 29) ?hr ?_; (case hd => rfl); (case hg => rfl); (case hr => first | (go_simp; done) | (go_simp; rfl))
     intro gb218 hg w24 hbox hb
     have n0_ := Aside0.mk (Kd.R_below (rk HO210.out) hb)
     have n1_ := Aside0.mk (blk_below (g := gb205) (o := .cells #[.slice A0_0 l0_0.length c0_0] 24 (0, 0)) (bk BK205.out) hb)
     have n2_ := Aside0.mk (blk_below (g := gb206) (o := .cells #[.int .i64 a1_0, .int .i64 a1_1, .int .i64 a1_2] 34 (0, 0)) (bk BK206.out) hb)
     have n3_ := Aside0.mk (below_step (hB HB.out) hb)
     have n4_ := Aside0.mk (hbox)
     have n5_ := Aside0.mk ((by rw [hg]; exact (below_size (hB HB.out)) : w.heap.size ≤ gb218))
     have n6_ := Aside0.mk ((by rw [hg]; exact (below_size (hB HB.out)) : w.heap.size ≤ gb218))
     have n7_ := Aside0.mk ((by rw [hg]; exact Nat.ne_of_lt (blk_lt (g := gb205) (o := .cells #[.slice A0_0 l0_0.length c0_0] 24 (0, 0)) (bk BK205.out)) : gb205 ≠ gb218))
     have n8_ := Aside0.mk ((by rw [hg]; exact Nat.ne_of_gt (blk_lt (g := gb205) (o := .cells #[.slice A0_0 l0_0.length c0_0] 24 (0, 0)) (bk BK205.out)) : gb218 ≠ gb205))
     have n9_ := Aside0.mk ((by rw [hg]; exact Nat.ne_of_lt (blk_lt (g := gb206) (o := .cells #[.int .i64 a1_0, .int .i64 a1_1, .int .i64 a1_2] 34 (0, 0)) (bk BK206.out)) : gb206 ≠ gb218))
     have n10_ := Aside0.mk ((by rw [hg]; exact Nat.ne_of_gt (blk_lt (g := gb206) (o := .cells #[.int .i64 a1_0, .int .i64 a1_1, .int .i64 a1_2] 34 (0, 0)) (bk BK206.out)) : gb218 ≠ gb206))
     clear HO210
     clear BK205
     clear BK206
     clear HB
     have HO210 := n0_
     have BK205 := n1_
     have BK206 := n2_
     have HB := n3_
     have BK218 := n4_
     have GW218 := n5_
     have GE218 := n6_
     have NB205_218 := n7_
     have NB218_205 := n8_
     have NB206_218 := n9_
     have NB218_206 := n10_
     clear n0_ n1_ n2_ n3_ n4_ n5_ n6_ n7_ n8_ n9_ n10_
     clear hb hbox hg
     refine hK.out _ _ ⟨(blk_cell BK205.out 0).trans rfl, (blk_cell BK206.out 0).trans rfl, (blk_cell BK206.out 1).trans rfl, (blk_cell BK206.out 2).trans rfl⟩ (fun hHeld => ?_)
     clear hK K
     refine norm_ (a' := ?_) ?_ ?_
     rotate_left
     ·show Act.put _ (some 6) _ = _
      simp only [Act.put, List.setIfInBounds_toArray, List.set_cons_zero, List.set_cons_succ, i64_w, i32_w]
      rfl
     refine one_ (i := 3) (N := some 25) #[true, true, true, true, false, false, false, false, true, false, false] rfl rfl (one_of HT_.out (by kernel_rfl)) (by decide) (fun K hK => ?_)
     refine goes_ Try.func21 (by kernel_rfl) rfl #[.agg #[.int .i64 a1_0, .int .i64 a1_1, .int .i64 a1_2]] (by rfl) rfl rfl (by (try simp only [List.map_toArray, List.map_cons, List.map_nil]); first | done | rfl | (simp only [List.length_drop, List.length_take]; rfl)) ?_
     with_reducible refine (laws_toClue.calls a1_0 a1_1 a1_2 t211 t212 t213 _ A11.out).mono ?_
     rintro e w25 ⟨rfl, hb⟩
     refine ⟨_, rfl, ?_⟩
     have n0_ := Aside0.mk (Kd.R_below (rk HO210.out) hb)
     have n1_ := Aside0.mk (blk_below (g := gb205) (o := .cells #[.slice A0_0 l0_0.length c0_0] 24 (0, 0)) (bk BK205.out) hb)
     have n2_ := Aside0.mk (blk_below (g := gb206) (o := .cells #[.int .i64 a1_0, .int .i64 a1_1, .int .i64 a1_2] 34 (0, 0)) (bk BK206.out) hb)
     have n3_ := Aside0.mk (blk_below (g := gb218) (o := .cells #[.slice none 0 0] 29 (0, 0)) (bk BK218.out) hb)
     have n4_ := Aside0.mk (below_step (hB HB.out) hb)
     clear HO210
     clear BK205
     clear BK206
     clear BK218
     clear HB
     have HO210 := n0_
     have BK205 := n1_
     have BK206 := n2_
     have BK218 := n3_
     have HB := n4_
     clear n0_ n1_ n2_ n3_ n4_
     (try clear hb)
     (try clear hb2)
     (try clear hk)
     (try clear hi)
     obtain ⟨Ao26, co26, eo26⟩ := Kd.R_slice HO210.out
     (first | subst eo26 | (injection eo26 with f1_ f2_ f3_; have f4_ := f1_.symm; have f5_ := f3_.symm; clear f1_ f2_ f3_; subst f4_; subst f5_))
     refine hK.out _ _ ⟨(blk_cell BK205.out 0).trans rfl, (blk_cell BK206.out 0).trans rfl, (blk_cell BK206.out 1).trans rfl, (blk_cell BK206.out 2).trans rfl⟩ (fun hHeld => ?_)
     clear hK K
     refine norm_ (a' := ?_) ?_ ?_
     rotate_left
     ·show Act.put _ (some 25) _ = _
      simp only [Act.put, List.setIfInBounds_toArray, List.set_cons_zero, List.set_cons_succ, i64_w, i32_w]
      rfl
     refine one_ (i := 4) (N := some 26) #[true, true, true, true, true, false, false, false, true, false, false] rfl rfl (one_of HT_.out (by kernel_rfl)) (by decide) (fun K hK => ?_)
     refine goes_ Try.func24 (by kernel_rfl) rfl #[.agg #[.slice Ao26 t208.length co26], .agg #[.int .i64 t211, .int .i64 t212, .int .i64 t213]] (by rfl) rfl rfl (by (try simp only [List.map_toArray, List.map_cons, List.map_nil]); first | done | rfl | (simp only [List.length_drop, List.length_take]; rfl)) ?_
     with_reducible refine (spec_AddClue.calls k _ _ t208 t211 t212 t213 t214 t217 _ ?side1 ?side2 A12.out).mono ?_
     (case side1 => repeat (first | exact (Kd.R_reads' HO210.out).2.2 | (with_reducible refine Kd.C_alloc ?_ _) | (with_reducible refine Kd.C_drewN ?_ _) | (with_reducible refine Kd.C_drew ?_)))
     (case side2 => exact (Kd.R_reads' HO210.out).2.1)
     rintro e w27 ⟨v215, rfl, ho0, hb⟩
     refine ⟨_, rfl, ?_⟩
     have n0_ := Aside0.mk (Kd.R_elder' (rk HO210.out) (Kd.R_base ho0) hb)
     have n1_ := Aside0.mk (Kd.R_lower (Kd.R_new' ho0 (Kd.R_lt (rk HO210.out))) (below_size (hB HB.out)))
     have n2_ := Aside0.mk (blk_below (g := gb205) (o := .cells #[.slice A0_0 l0_0.length c0_0] 24 (0, 0)) (bk BK205.out) hb)
     have n3_ := Aside0.mk (blk_below (g := gb206) (o := .cells #[.int .i64 a1_0, .int .i64 a1_1, .int .i64 a1_2] 34 (0, 0)) (bk BK206.out) hb)
     have n4_ := Aside0.mk (blk_below (g := gb218) (o := .cells #[.slice none 0 0] 29 (0, 0)) (bk BK218.out) hb)
     have n5_ := Aside0.mk (below_step (hB HB.out) hb)
     clear HO210
     clear BK205
     clear BK206
     clear BK218
     clear HB
     have HO210 := n0_
     have HO216 := n1_
     have BK205 := n2_
     have BK206 := n3_
     have BK218 := n4_
     have HB := n5_
     clear n0_ n1_ n2_ n3_ n4_ n5_
     (try clear hb)
     (try clear hb2)
     (try clear hk)
     (try clear hi)
     (try clear ho0)
     refine hK.out _ _ ⟨(blk_cell BK205.out 0).trans rfl, (blk_cell BK206.out 0).trans rfl, (blk_cell BK206.out 1).trans rfl, (blk_cell BK206.out 2).trans rfl⟩ (fun hHeld => ?_)
     clear hK K
     refine norm_ (a' := ?_) ?_ ?_
     rotate_left
     ·show Act.put _ (some 26) _ = _
      simp only [Act.put, List.setIfInBounds_toArray, List.set_cons_zero, List.set_cons_succ, i64_w, i32_w]
      rfl
     refine pure_ (i := 5) (N := some 21) (v := ?_) (a' := ?_) #[true, true, true, true, true, true, false, false, true, false, false] rfl rfl (any_of HT_.out (by kernel_rfl)) (fun _ _ _ h => h) (Or.inl ⟨by rfl, ?_⟩) ?_ ?_
     rotate_left
     ·intro w'
      go_simp
      with_reducible rfl
     rotate_left
     ·simp only [Act.put, List.setIfInBounds_toArray, List.set_cons_zero, List.set_cons_succ, i64_w, i32_w]
      rfl
     refine pure_ (i := 6) (N := some 27) (v := ?_) (a' := ?_) #[true, true, true, true, true, true, true, false, true, false, false] rfl rfl (any_of HT_.out (by kernel_rfl)) (fun _ _ _ h => h) (Or.inl ⟨by rfl, ?_⟩) ?_ ?_
     rotate_left
     ·intro w'
      go_simp
      with_reducible rfl
     rotate_left
     ·simp only [Act.put, List.setIfInBounds_toArray, List.set_cons_zero, List.set_cons_succ, i64_w, i32_w]
      rfl
     refine pure_ (i := 7) (N := some 28) (v := ?_) (a' := ?_) #[true, true, true, true, true, true, true, true, true, false, false] rfl rfl (any_of HT_.out (by kernel_rfl)) (fun _ _ _ h => h) (Or.inl ⟨by rfl, ?_⟩) ?_ ?_
     rotate_left
     ·intro w'
      go_simp
      with_reducible rfl
     rotate_left
     ·simp only [Act.put, List.setIfInBounds_toArray, List.set_cons_zero, List.set_cons_succ, i64_w, i32_w]
      rfl
     exact norm_ (by simp only [putAll, Act.put, List.setIfInBounds_toArray, List.set_cons_zero, List.set_cons_succ]) (hCont (.slice Ao26 t208.length co26, v215, gb218) _ ⟨hHeld, (rk (Kd.R_mono HO210.out (fun _ hk => hk.2))), (rk (Kd.R_mono HO216.out (fun _ hk => hk.2))), (bk BK205.out), (bk BK206.out), (bk BK218.out), GW218.out, GE218.out, NB205_218.out, NB218_205.out, NB206_218.out, NB218_206.out, (hB HB.out)⟩)
   ·skip
    refine box_step ?hg (N := 6) ?hd (cs := #[.slice none 0 0]) (t := 29) ?hr ?_; (case hd => rfl); (case hg => rfl); (case hr => first | (go_simp; done) | (go_simp; rfl))
    intro gb218 hg w23 hbox hb
    have n0_ := Aside0.mk (blk_below (g := gb205) (o := .cells #[.slice A0_0 l0_0.length c0_0] 24 (0, 0)) (bk BK205.out) hb)
    have n1_ := Aside0.mk (blk_below (g := gb206) (o := .cells #[.int .i64 a1_0, .int .i64 a1_1, .int .i64 a1_2] 34 (0, 0)) (bk BK206.out) hb)
    have n2_ := Aside0.mk (below_step (hB HB.out) hb)
    have n3_ := Aside0.mk (hbox)
    have n4_ := Aside0.mk ((by rw [hg]; exact (below_size (hB HB.out)) : w.heap.size ≤ gb218))
    have n5_ := Aside0.mk ((by rw [hg]; exact (below_size (hB HB.out)) : w.heap.size ≤ gb218))
    have n6_ := Aside0.mk ((by rw [hg]; exact Nat.ne_of_lt (blk_lt (g := gb205) (o := .cells #[.slice A0_0 l0_0.length c0_0] 24 (0, 0)) (bk BK205.out)) : gb205 ≠ gb218))
    have n7_ := Aside0.mk ((by rw [hg]; exact Nat.ne_of_gt (blk_lt (g := gb205) (o := .cells #[.slice A0_0 l0_0.length c0_0] 24 (0, 0)) (bk BK205.out)) : gb218 ≠ gb205))
    have n8_ := Aside0.mk ((by rw [hg]; exact Nat.ne_of_lt (blk_lt (g := gb206) (o := .cells #[.int .i64 a1_0, .int .i64 a1_1, .int .i64 a1_2] 34 (0, 0)) (bk BK206.out)) : gb206 ≠ gb218))
    have n9_ := Aside0.mk ((by rw [hg]; exact Nat.ne_of_gt (blk_lt (g := gb206) (o := .cells #[.int .i64 a1_0, .int .i64 a1_1, .int .i64 a1_2] 34 (0, 0)) (bk BK206.out)) : gb218 ≠ gb206))
    clear BK205
    clear BK206
    clear HB
    have BK205 := n0_
    have BK206 := n1_
    have HB := n2_
    have BK218 := n3_
    have GW218 := n4_
    have GE218 := n5_
    have NB205_218 := n6_
    have NB218_205 := n7_
    have NB206_218 := n8_
    have NB218_206 := n9_
    clear n0_ n1_ n2_ n3_ n4_ n5_ n6_ n7_ n8_ n9_
    clear hb hbox hg
    refine hK.out _ _ ⟨(blk_cell BK205.out 0).trans rfl, (blk_cell BK206.out 0).trans rfl, (blk_cell BK206.out 1).trans rfl, (blk_cell BK206.out 2).trans rfl⟩ (fun hHeld => ?_)
    clear hK K
    refine norm_ (a' := ?_) ?_ ?_
    rotate_left
    ·show Act.put _ (some 6) _ = _
     simp only [Act.put, List.setIfInBounds_toArray, List.set_cons_zero, List.set_cons_succ, i64_w, i32_w]
     rfl
    refine one_ (i := 1) (N := some 23) #[true, true, true, false, false, false, false, false, true, false, false] rfl rfl (one_of HT_.out (by kernel_rfl)) (by decide) (fun K hK => ?_)
    refine goes_ Try.func17 (by kernel_rfl) rfl #[.agg #[.slice A0_0 l0_0.length c0_0]] (by rfl) rfl rfl (by (try simp only [List.map_toArray, List.map_cons, List.map_nil]); first | done | rfl | (simp only [List.length_drop, List.length_take]; rfl)) ?_
    with_reducible refine (laws_toPuzzle.calls k _ _ l0_0 t208 _ ?side1 ?side2 A10.out).mono ?_
    (case side1 => repeat (first | exact (Kd.C_below HR0_0.out HB.out) | (with_reducible refine Kd.C_alloc ?_ _) | (with_reducible refine Kd.C_drewN ?_ _) | (with_reducible refine Kd.C_drew ?_)))
    (case side2 => exact HC0_0.out)
    rintro e w24 ⟨v209, rfl, ho0, hb⟩
    refine ⟨_, rfl, ?_⟩
    have n0_ := Aside0.mk (Kd.R_lower ho0 (below_size (hB HB.out)))
    have n1_ := Aside0.mk (blk_below (g := gb205) (o := .cells #[.slice A0_0 l0_0.length c0_0] 24 (0, 0)) (bk BK205.out) hb)
    have n2_ := Aside0.mk (blk_below (g := gb206) (o := .cells #[.int .i64 a1_0, .int .i64 a1_1, .int .i64 a1_2] 34 (0, 0)) (bk BK206.out) hb)
    have n3_ := Aside0.mk (blk_below (g := gb218) (o := .cells #[.slice none 0 0] 29 (0, 0)) (bk BK218.out) hb)
    have n4_ := Aside0.mk (below_step (hB HB.out) hb)
    clear BK205
    clear BK206
    clear BK218
    clear HB
    have HO210 := n0_
    have BK205 := n1_
    have BK206 := n2_
    have BK218 := n3_
    have HB := n4_
    clear n0_ n1_ n2_ n3_ n4_
    (try clear hb)
    (try clear hb2)
    (try clear hk)
    (try clear hi)
    (try clear ho0)
    refine hK.out _ _ ⟨(blk_cell BK205.out 0).trans rfl, (blk_cell BK206.out 0).trans rfl, (blk_cell BK206.out 1).trans rfl, (blk_cell BK206.out 2).trans rfl⟩ (fun hHeld => ?_)
    clear hK K
    refine norm_ (a' := ?_) ?_ ?_
    rotate_left
    ·show Act.put _ (some 23) _ = _
     simp only [Act.put, List.setIfInBounds_toArray, List.set_cons_zero, List.set_cons_succ, i64_w, i32_w]
     rfl
    refine one_ (i := 3) (N := some 25) #[true, true, true, true, false, false, false, false, true, false, false] rfl rfl (one_of HT_.out (by kernel_rfl)) (by decide) (fun K hK => ?_)
    refine goes_ Try.func21 (by kernel_rfl) rfl #[.agg #[.int .i64 a1_0, .int .i64 a1_1, .int .i64 a1_2]] (by rfl) rfl rfl (by (try simp only [List.map_toArray, List.map_cons, List.map_nil]); first | done | rfl | (simp only [List.length_drop, List.length_take]; rfl)) ?_
    with_reducible refine (laws_toClue.calls a1_0 a1_1 a1_2 t211 t212 t213 _ A11.out).mono ?_
    rintro e w25 ⟨rfl, hb⟩
    refine ⟨_, rfl, ?_⟩
    have n0_ := Aside0.mk (Kd.R_below (rk HO210.out) hb)
    have n1_ := Aside0.mk (blk_below (g := gb205) (o := .cells #[.slice A0_0 l0_0.length c0_0] 24 (0, 0)) (bk BK205.out) hb)
    have n2_ := Aside0.mk (blk_below (g := gb206) (o := .cells #[.int .i64 a1_0, .int .i64 a1_1, .int .i64 a1_2] 34 (0, 0)) (bk BK206.out) hb)
    have n3_ := Aside0.mk (blk_below (g := gb218) (o := .cells #[.slice none 0 0] 29 (0, 0)) (bk BK218.out) hb)
    have n4_ := Aside0.mk (below_step (hB HB.out) hb)
    clear HO210
    clear BK205
    clear BK206
    clear BK218
    clear HB
    have HO210 := n0_
    have BK205 := n1_
    have BK206 := n2_
    have BK218 := n3_
    have HB := n4_
    clear n0_ n1_ n2_ n3_ n4_
    (try clear hb)
    (try clear hb2)
    (try clear hk)
    (try clear hi)
    obtain ⟨Ao26, co26, eo26⟩ := Kd.R_slice HO210.out
    (first | subst eo26 | (injection eo26 with f1_ f2_ f3_; have f4_ := f1_.symm; have f5_ := f3_.symm; clear f1_ f2_ f3_; subst f4_; subst f5_))
    refine hK.out _ _ ⟨(blk_cell BK205.out 0).trans rfl, (blk_cell BK206.out 0).trans rfl, (blk_cell BK206.out 1).trans rfl, (blk_cell BK206.out 2).trans rfl⟩ (fun hHeld => ?_)
    clear hK K
    refine norm_ (a' := ?_) ?_ ?_
    rotate_left
    ·show Act.put _ (some 25) _ = _
     simp only [Act.put, List.setIfInBounds_toArray, List.set_cons_zero, List.set_cons_succ, i64_w, i32_w]
     rfl
    refine one_ (i := 4) (N := some 26) #[true, true, true, true, true, false, false, false, true, false, false] rfl rfl (one_of HT_.out (by kernel_rfl)) (by decide) (fun K hK => ?_)
    refine goes_ Try.func24 (by kernel_rfl) rfl #[.agg #[.slice Ao26 t208.length co26], .agg #[.int .i64 t211, .int .i64 t212, .int .i64 t213]] (by rfl) rfl rfl (by (try simp only [List.map_toArray, List.map_cons, List.map_nil]); first | done | rfl | (simp only [List.length_drop, List.length_take]; rfl)) ?_
    with_reducible refine (spec_AddClue.calls k _ _ t208 t211 t212 t213 t214 t217 _ ?side1 ?side2 A12.out).mono ?_
    (case side1 => repeat (first | exact (Kd.R_reads' HO210.out).2.2 | (with_reducible refine Kd.C_alloc ?_ _) | (with_reducible refine Kd.C_drewN ?_ _) | (with_reducible refine Kd.C_drew ?_)))
    (case side2 => exact (Kd.R_reads' HO210.out).2.1)
    rintro e w27 ⟨v215, rfl, ho0, hb⟩
    refine ⟨_, rfl, ?_⟩
    have n0_ := Aside0.mk (Kd.R_elder' (rk HO210.out) (Kd.R_base ho0) hb)
    have n1_ := Aside0.mk (Kd.R_lower (Kd.R_new' ho0 (Kd.R_lt (rk HO210.out))) (below_size (hB HB.out)))
    have n2_ := Aside0.mk (blk_below (g := gb205) (o := .cells #[.slice A0_0 l0_0.length c0_0] 24 (0, 0)) (bk BK205.out) hb)
    have n3_ := Aside0.mk (blk_below (g := gb206) (o := .cells #[.int .i64 a1_0, .int .i64 a1_1, .int .i64 a1_2] 34 (0, 0)) (bk BK206.out) hb)
    have n4_ := Aside0.mk (blk_below (g := gb218) (o := .cells #[.slice none 0 0] 29 (0, 0)) (bk BK218.out) hb)
    have n5_ := Aside0.mk (below_step (hB HB.out) hb)
    clear HO210
    clear BK205
    clear BK206
    clear BK218
    clear HB
    have HO210 := n0_
    have HO216 := n1_
    have BK205 := n2_
    have BK206 := n3_
    have BK218 := n4_
    have HB := n5_
    clear n0_ n1_ n2_ n3_ n4_ n5_
    (try clear hb)
    (try clear hb2)
    (try clear hk)
    (try clear hi)
    (try clear ho0)
    refine hK.out _ _ ⟨(blk_cell BK205.out 0).trans rfl, (blk_cell BK206.out 0).trans rfl, (blk_cell BK206.out 1).trans rfl, (blk_cell BK206.out 2).trans rfl⟩ (fun hHeld => ?_)
    clear hK K
    refine norm_ (a' := ?_) ?_ ?_
    rotate_left
    ·show Act.put _ (some 26) _ = _
     simp only [Act.put, List.setIfInBounds_toArray, List.set_cons_zero, List.set_cons_succ, i64_w, i32_w]
     rfl
    refine pure_ (i := 5) (N := some 21) (v := ?_) (a' := ?_) #[true, true, true, true, true, true, false, false, true, false, false] rfl rfl (any_of HT_.out (by kernel_rfl)) (fun _ _ _ h => h) (Or.inl ⟨by rfl, ?_⟩) ?_ ?_
    rotate_left
    ·intro w'
     go_simp
     with_reducible rfl
    rotate_left
    ·simp only [Act.put, List.setIfInBounds_toArray, List.set_cons_zero, List.set_cons_succ, i64_w, i32_w]
     rfl
    refine pure_ (i := 6) (N := some 27) (v := ?_) (a' := ?_) #[true, true, true, true, true, true, true, false, true, false, false] rfl rfl (any_of HT_.out (by kernel_rfl)) (fun _ _ _ h => h) (Or.inl ⟨by rfl, ?_⟩) ?_ ?_
    rotate_left
    ·intro w'
     go_simp
     with_reducible rfl
    rotate_left
    ·simp only [Act.put, List.setIfInBounds_toArray, List.set_cons_zero, List.set_cons_succ, i64_w, i32_w]
     rfl
    refine pure_ (i := 7) (N := some 28) (v := ?_) (a' := ?_) #[true, true, true, true, true, true, true, true, true, false, false] rfl rfl (any_of HT_.out (by kernel_rfl)) (fun _ _ _ h => h) (Or.inl ⟨by rfl, ?_⟩) ?_ ?_
    rotate_left
    ·intro w'
     go_simp
     with_reducible rfl
    rotate_left
    ·simp only [Act.put, List.setIfInBounds_toArray, List.set_cons_zero, List.set_cons_succ, i64_w, i32_w]
     rfl
    exact norm_ (by simp only [putAll, Act.put, List.setIfInBounds_toArray, List.set_cons_zero, List.set_cons_succ]) (hCont (.slice Ao26 t208.length co26, v215, gb218) _ ⟨hHeld, (rk (Kd.R_mono HO210.out (fun _ hk => hk.2))), (rk (Kd.R_mono HO216.out (fun _ hk => hk.2))), (bk BK205.out), (bk BK206.out), (bk BK218.out), GW218.out, GE218.out, NB205_218.out, NB218_205.out, NB206_218.out, NB218_206.out, (hB HB.out)⟩)
  rintro ⟨v209, v215, gb218⟩ w28 ⟨hS_, h0_, h1_, h2_, h3_, h4_, h5_, h6_, h7_, h8_, h9_, h10_, h11_⟩
  have n0_ : Aside0 (Kd.R k39 39 w28 w.heap.size (fun k_ => some k_ ≠ (v215 : Value).ownBlock) v209 t208) := ⟨h0_⟩
  have n1_ : Aside0 (Kd.R k39 39 w28 w.heap.size (fun k_ => some k_ ≠ (v209 : Value).ownBlock) v215 t214) := ⟨h1_⟩
  have n2_ : Aside0 (w28.heap[gb205]? = some (.cells #[.slice A0_0 l0_0.length c0_0] 24 (0, 0))) := ⟨h2_⟩
  have n3_ : Aside0 (w28.heap[gb206]? = some (.cells #[.int .i64 a1_0, .int .i64 a1_1, .int .i64 a1_2] 34 (0, 0))) := ⟨h3_⟩
  have n4_ : Aside0 (w28.heap[gb218]? = some (.cells #[.slice none 0 0] 29 (0, 0))) := ⟨h4_⟩
  have n5_ : Aside0 (w.heap.size ≤ gb218) := ⟨h5_⟩
  have n6_ : Aside0 (w.heap.size ≤ gb218) := ⟨h6_⟩
  have n7_ : Aside0 (gb205 ≠ gb218) := ⟨h7_⟩
  have n8_ : Aside0 (gb218 ≠ gb205) := ⟨h8_⟩
  have n9_ : Aside0 (gb206 ≠ gb218) := ⟨h9_⟩
  have n10_ : Aside0 (gb218 ≠ gb206) := ⟨h10_⟩
  have n11_ : Aside0 (Below w.heap.size w w28) := ⟨h11_⟩
  clear BK205
  clear BK206
  clear HB
  clear h0_ h1_ h2_ h3_ h4_ h5_ h6_ h7_ h8_ h9_ h10_ h11_
  have HO210 := n0_
  have HO216 := n1_
  have BK205 := n2_
  have BK206 := n3_
  have BK218 := n4_
  have GW218 := n5_
  have GE218 := n6_
  have NB205_218 := n7_
  have NB218_205 := n8_
  have NB206_218 := n9_
  have NB218_206 := n10_
  have HB := n11_
  clear n0_ n1_ n2_ n3_ n4_ n5_ n6_ n7_ n8_ n9_ n10_ n11_
  have hHeld : w28.cell? ⟨gb205, 0, none⟩ = some (.slice A0_0 l0_0.length c0_0) ∧ w28.cell? ⟨gb206, 0, none⟩ = some (.int .i64 a1_0) ∧ w28.cell? ⟨gb206, 1, none⟩ = some (.int .i64 a1_1) ∧ w28.cell? ⟨gb206, 2, none⟩ = some (.int .i64 a1_2) := hS_
  obtain ⟨Ao29, co29, eo29⟩ := Kd.R_slice HO216.out
  (first | subst eo29 | (injection eo29 with f1_ f2_ f3_; have f4_ := f1_.symm; have f5_ := f3_.symm; clear f1_ f2_ f3_; subst f4_; subst f5_))
  refine norm_ (a' := ?_) ?_ ?_
  rotate_left
  ·simp only [putAll, Act.put, List.setIfInBounds_toArray, List.set_cons_zero, List.set_cons_succ]
   rfl
  refine one_ (i := 9) (N := none) #[true, true, true, true, true, true, true, true, true, true, false] rfl rfl (one_of HT_.out (by kernel_rfl)) (by decide) (fun K hK => ?_)
  have hs30 : w28.cell? ⟨gb218, 0, none⟩ = some (.slice none 0 0) := (blk_cell BK218.out 0).trans rfl
  have hfs30 := blk_frozen BK218.out 0
  have hns30_0 := NB205_218.out
  have hns30_1 := NB206_218.out
  have hms30_0 := NB218_205.out
  have hms30_1 := NB218_206.out
  refine skip_ (w1 := ?_) (by rfl) rfl ?_ ?_
  rotate_left
  ·go_simp
   rfl
  refine hK.out _ _ ⟨((cell_far (p := ⟨gb218, _, none⟩) NB205_218.out _).trans (hHeld.1)), ((cell_far (p := ⟨gb218, _, none⟩) NB206_218.out _).trans (hHeld.2.1)), ((cell_far (p := ⟨gb218, _, none⟩) NB206_218.out _).trans (hHeld.2.2.1)), ((cell_far (p := ⟨gb218, _, none⟩) NB206_218.out _).trans (hHeld.2.2.2))⟩ (fun hHeld => ?_)
  clear hK K
  refine pure_ (i := 10) (N := some 7) (v := ?_) (a' := ?_) #[true, true, true, true, true, true, true, true, true, true, true] rfl rfl (any_of HT_.out (by kernel_rfl)) (fun _ _ _ h => h) (Or.inl ⟨by rfl, ?_⟩) ?_ ?_
  rotate_left
  ·intro w'
   go_simp
   with_reducible rfl
  rotate_left
  ·simp only [Act.put, List.setIfInBounds_toArray, List.set_cons_zero, List.set_cons_succ, i64_w, i32_w]
   rfl
  refine done_ (done_of HT_.out (by kernel_rfl)) ?_
  have hnb31 := NB205_218.out
  have hnc31 := NB218_205.out
  have hcz32_0 : w28.cell? ⟨gb205, 0, none⟩ = some (.slice A0_0 l0_0.length c0_0) := (blk_cell BK205.out 0).trans rfl
  have hfz32_0 := blk_frozen BK205.out 0
  try go_wp2_with (first | ((with_reducible refine gate_callee (f := 17) rfl ?_); refine goesL_ (some 30) rfl rfl Try.func17 (by kernel_rfl) rfl #[.agg #[.slice A0_0 l0_0.length c0_0]] rfl (by (try simp only [List.map_toArray, List.map_cons, List.map_nil]); first | done | rfl | (simp only [List.length_drop, List.length_take]; rfl)) ?_; (with_reducible refine (laws_toPuzzle.calls k _ _ l0_0 t219 _ ?side1 ?side2 A13.out).mono ?_); (case side1 => exact Kd.C_below HR0_0.out (hB HB.out)); (case side2 => exact HC0_0.out); rintro e w33 ⟨v220, rfl, ho0, hb⟩; refine ⟨_, rfl, ?_⟩; have n0_ := Aside0.mk (Kd.R_elder' (rk (Kd.R_mono (Kd.R_far (p := ⟨gb218, 0, none⟩) (Kd.R_types HO210.out BK218.out (by decide)) (fun _ hk => hk.2) (.slice Ao29 t214.length co29)) (fun _ h_ => h_.1))) (Kd.R_base ho0) hb); have n1_ := Aside0.mk (Kd.R_elder' (rk (Kd.R_mono (Kd.R_far (p := ⟨gb218, 0, none⟩) (Kd.R_types HO216.out BK218.out (by decide)) (fun _ hk => hk.2) (.slice Ao29 t214.length co29)) (fun _ h_ => h_.1))) (Kd.R_base ho0) hb); have n2_ := Aside0.mk (Kd.R_lower (Kd.R_new' (Kd.R_new' ho0 (Kd.R_lt (rk (Kd.R_mono (Kd.R_far (p := ⟨gb218, 0, none⟩) (Kd.R_types HO210.out BK218.out (by decide)) (fun _ hk => hk.2) (.slice Ao29 t214.length co29)) (fun _ h_ => h_.1))))) (Kd.R_lt (rk (Kd.R_mono (Kd.R_far (p := ⟨gb218, 0, none⟩) (Kd.R_types HO216.out BK218.out (by decide)) (fun _ hk => hk.2) (.slice Ao29 t214.length co29)) (fun _ h_ => h_.1))))) (below_size (hB HB.out))); have n3_ := Aside0.mk (blk_below (g := gb205) (o := .cells #[.slice A0_0 l0_0.length c0_0] 24 (0, 0)) (by (with_reducible repeat (first | refine blk_drewN ?_ _ | refine blk_drew ?_ | refine blk_alloc ?_ _)); refine blk_far ?_ NB205_218.out _; (with_reducible repeat (first | refine blk_drewN ?_ _ | refine blk_drew ?_ | refine blk_alloc ?_ _)); exact BK205.out) hb); have n4_ := Aside0.mk (blk_below (g := gb206) (o := .cells #[.int .i64 a1_0, .int .i64 a1_1, .int .i64 a1_2] 34 (0, 0)) (by (with_reducible repeat (first | refine blk_drewN ?_ _ | refine blk_drew ?_ | refine blk_alloc ?_ _)); refine blk_far ?_ NB206_218.out _; (with_reducible repeat (first | refine blk_drewN ?_ _ | refine blk_drew ?_ | refine blk_alloc ?_ _)); exact BK206.out) hb); have n5_ := Aside0.mk (blk_below (g := gb218) (o := .cells #[.slice Ao29 t214.length co29] 29 (0, 0)) (by (with_reducible repeat (first | refine blk_drewN ?_ _ | refine blk_drew ?_ | refine blk_alloc ?_ _)); refine blk_put (cs := #[.slice none 0 0]) ?_ 0 _ rfl; (with_reducible repeat (first | refine blk_drewN ?_ _ | refine blk_drew ?_ | refine blk_alloc ?_ _)); exact BK218.out) hb); have n6_ := Aside0.mk (below_step (hB HB.out) hb); clear HO210; clear HO216; clear BK205; clear BK206; clear BK218; clear HB; have HO210 := n0_; have HO216 := n1_; have HO221 := n2_; have BK205 := n3_; have BK206 := n4_; have BK218 := n5_; have HB := n6_; clear n0_ n1_ n2_ n3_ n4_ n5_ n6_; (try clear hb); (try clear hb2); (try clear hk); (try clear hi); (try clear ho0)) | ((with_reducible refine gate_dst (N := 8) rfl ?_); refine box_event ?hg (N := 8) ?hd (cs := #[.slice none 0 0]) (t := 29) ?hr ?_; (case hd => rfl); (case hg => rfl); (case hr => first | (go_simp; done) | (go_simp; rfl)); intro gb222 hg w34 hbox hb; have n0_ := Aside0.mk (Kd.R_below (rk HO210.out) hb); have n1_ := Aside0.mk (Kd.R_below (rk HO216.out) hb); have n2_ := Aside0.mk (Kd.R_below (rk HO221.out) hb); have n3_ := Aside0.mk (blk_below (g := gb205) (o := .cells #[.slice A0_0 l0_0.length c0_0] 24 (0, 0)) (bk BK205.out) hb); have n4_ := Aside0.mk (blk_below (g := gb206) (o := .cells #[.int .i64 a1_0, .int .i64 a1_1, .int .i64 a1_2] 34 (0, 0)) (bk BK206.out) hb); have n5_ := Aside0.mk (blk_below (g := gb218) (o := .cells #[.slice Ao29 t214.length co29] 29 (0, 0)) (bk BK218.out) hb); have n6_ := Aside0.mk (below_step (hB HB.out) hb); have n7_ := Aside0.mk (hbox); have n8_ := Aside0.mk ((by rw [hg]; exact (below_size (hB HB.out)) : w.heap.size ≤ gb222)); have n9_ := Aside0.mk ((by rw [hg]; exact (below_size (hB HB.out)) : w.heap.size ≤ gb222)); have n10_ := Aside0.mk ((by rw [hg]; exact Nat.ne_of_lt (blk_lt (g := gb205) (o := .cells #[.slice A0_0 l0_0.length c0_0] 24 (0, 0)) (bk BK205.out)) : gb205 ≠ gb222)); have n11_ := Aside0.mk ((by rw [hg]; exact Nat.ne_of_gt (blk_lt (g := gb205) (o := .cells #[.slice A0_0 l0_0.length c0_0] 24 (0, 0)) (bk BK205.out)) : gb222 ≠ gb205)); have n12_ := Aside0.mk ((by rw [hg]; exact Nat.ne_of_lt (blk_lt (g := gb206) (o := .cells #[.int .i64 a1_0, .int .i64 a1_1, .int .i64 a1_2] 34 (0, 0)) (bk BK206.out)) : gb206 ≠ gb222)); have n13_ := Aside0.mk ((by rw [hg]; exact Nat.ne_of_gt (blk_lt (g := gb206) (o := .cells #[.int .i64 a1_0, .int .i64 a1_1, .int .i64 a1_2] 34 (0, 0)) (bk BK206.out)) : gb222 ≠ gb206)); have n14_ := Aside0.mk ((by rw [hg]; exact Nat.ne_of_lt (blk_lt (g := gb218) (o := .cells #[.slice Ao29 t214.length co29] 29 (0, 0)) (bk BK218.out)) : gb218 ≠ gb222)); have n15_ := Aside0.mk ((by rw [hg]; exact Nat.ne_of_gt (blk_lt (g := gb218) (o := .cells #[.slice Ao29 t214.length co29] 29 (0, 0)) (bk BK218.out)) : gb222 ≠ gb218)); clear HO210; clear HO216; clear HO221; clear BK205; clear BK206; clear BK218; clear HB; have HO210 := n0_; have HO216 := n1_; have HO221 := n2_; have BK205 := n3_; have BK206 := n4_; have BK218 := n5_; have HB := n6_; have BK222 := n7_; have GW222 := n8_; have GE222 := n9_; have NB205_222 := n10_; have NB222_205 := n11_; have NB206_222 := n12_; have NB222_206 := n13_; have NB218_222 := n14_; have NB222_218 := n15_; clear n0_ n1_ n2_ n3_ n4_ n5_ n6_ n7_ n8_ n9_ n10_ n11_ n12_ n13_ n14_ n15_; clear hb hbox hg; obtain ⟨Ao35, co35, eo35⟩ := Kd.R_slice HO221.out; subst eo35; have hnb36 := NB222_205.out; have hnc36 := NB205_222.out; have hnb37 := NB222_206.out; have hnc37 := NB206_222.out; have hnb38 := NB222_218.out; have hnc38 := NB218_222.out; have hcz39_0 : w34.cell? ⟨gb222, 0, none⟩ = some (.slice none 0 0) := (blk_cell BK222.out 0).trans rfl; have hfz39_0 := blk_frozen BK222.out 0))
  have n0_ : Aside0 (Kd.R k39 39 (w34.setCell ⟨gb222, 0, none⟩ (.slice Ao35 t219.length co35)) w.heap.size (fun k_ => some k_ ≠ (.slice Ao29 t214.length co29 : Value).ownBlock ∧ some k_ ≠ (.slice Ao35 t219.length co35 : Value).ownBlock) v209 t208) := ⟨rk (Kd.R_mono (Kd.R_far (p := ⟨gb222, 0, none⟩) (Kd.R_types HO210.out BK222.out (by decide)) (fun _ hk => hk.2) (.slice Ao35 t219.length co35)) (fun _ hk => ⟨hk.1.1, hk.1.2⟩))⟩
  have n1_ : Aside0 (Kd.R k39 39 (w34.setCell ⟨gb222, 0, none⟩ (.slice Ao35 t219.length co35)) w.heap.size (fun k_ => some k_ ≠ (v209 : Value).ownBlock ∧ some k_ ≠ (.slice Ao35 t219.length co35 : Value).ownBlock) (.slice Ao29 t214.length co29) t214) := ⟨rk (Kd.R_mono (Kd.R_far (p := ⟨gb222, 0, none⟩) (Kd.R_types HO216.out BK222.out (by decide)) (fun _ hk => hk.2) (.slice Ao35 t219.length co35)) (fun _ hk => ⟨hk.1.1, hk.1.2⟩))⟩
  have n2_ : Aside0 (Kd.R k39 39 (w34.setCell ⟨gb222, 0, none⟩ (.slice Ao35 t219.length co35)) w.heap.size (fun k_ => some k_ ≠ (v209 : Value).ownBlock ∧ some k_ ≠ (.slice Ao29 t214.length co29 : Value).ownBlock) (.slice Ao35 t219.length co35) t219) := ⟨rk (Kd.R_mono (Kd.R_far (p := ⟨gb222, 0, none⟩) (Kd.R_types HO221.out BK222.out (by decide)) (fun _ hk => hk.2) (.slice Ao35 t219.length co35)) (fun _ hk => ⟨hk.1.1.2, hk.1.2⟩))⟩
  have n3_ : Aside0 ((w34.setCell ⟨gb222, 0, none⟩ (.slice Ao35 t219.length co35)).heap[gb205]? = some (.cells #[.slice A0_0 l0_0.length c0_0] 24 (0, 0))) := ⟨by (with_reducible repeat (first | refine blk_drewN ?_ _ | refine blk_drew ?_ | refine blk_alloc ?_ _)); refine blk_far ?_ NB205_222.out _; (with_reducible repeat (first | refine blk_drewN ?_ _ | refine blk_drew ?_ | refine blk_alloc ?_ _)); exact BK205.out⟩
  have n4_ : Aside0 ((w34.setCell ⟨gb222, 0, none⟩ (.slice Ao35 t219.length co35)).heap[gb206]? = some (.cells #[.int .i64 a1_0, .int .i64 a1_1, .int .i64 a1_2] 34 (0, 0))) := ⟨by (with_reducible repeat (first | refine blk_drewN ?_ _ | refine blk_drew ?_ | refine blk_alloc ?_ _)); refine blk_far ?_ NB206_222.out _; (with_reducible repeat (first | refine blk_drewN ?_ _ | refine blk_drew ?_ | refine blk_alloc ?_ _)); exact BK206.out⟩
  have n5_ : Aside0 ((w34.setCell ⟨gb222, 0, none⟩ (.slice Ao35 t219.length co35)).heap[gb218]? = some (.cells #[.slice Ao29 t214.length co29] 29 (0, 0))) := ⟨by (with_reducible repeat (first | refine blk_drewN ?_ _ | refine blk_drew ?_ | refine blk_alloc ?_ _)); refine blk_far ?_ NB218_222.out _; (with_reducible repeat (first | refine blk_drewN ?_ _ | refine blk_drew ?_ | refine blk_alloc ?_ _)); exact BK218.out⟩
  have n6_ : Aside0 ((w34.setCell ⟨gb222, 0, none⟩ (.slice Ao35 t219.length co35)).heap[gb222]? = some (.cells #[.slice Ao35 t219.length co35] 29 (0, 0))) := ⟨by (with_reducible repeat (first | refine blk_drewN ?_ _ | refine blk_drew ?_ | refine blk_alloc ?_ _)); refine blk_put (cs := #[.slice none 0 0]) ?_ 0 _ rfl; (with_reducible repeat (first | refine blk_drewN ?_ _ | refine blk_drew ?_ | refine blk_alloc ?_ _)); exact BK222.out⟩
  have n7_ : Aside0 (Below w.heap.size w (w34.setCell ⟨gb222, 0, none⟩ (.slice Ao35 t219.length co35))) := ⟨hB HB.out⟩
  (try clear HO210)
  (try clear HO216)
  (try clear HO221)
  (try clear BK205)
  (try clear BK206)
  (try clear BK218)
  (try clear BK222)
  (try clear HB)
  generalize (w34.setCell ⟨gb222, 0, none⟩ (.slice Ao35 t219.length co35)) = w40 at n0_ n1_ n2_ n3_ n4_ n5_ n6_ n7_ ⊢
  have HO210 := n0_
  have HO216 := n1_
  have HO221 := n2_
  have BK205 := n3_
  have BK206 := n4_
  have BK218 := n5_
  have BK222 := n6_
  have HB := n7_
  clear n0_ n1_ n2_ n3_ n4_ n5_ n6_ n7_
  have n0_ := Aside0.mk (Kd.R_drew HO210.out)
  have n1_ := Aside0.mk (Kd.R_drew HO216.out)
  have n2_ := Aside0.mk (Kd.R_drew HO221.out)
  have n3_ := Aside0.mk (blk_drew BK205.out)
  have n4_ := Aside0.mk (blk_drew BK206.out)
  have n5_ := Aside0.mk (blk_drew BK218.out)
  have n6_ := Aside0.mk (blk_drew BK222.out)
  have n7_ := Aside0.mk (below_drew1 HB.out)
  clear HO210
  clear HO216
  clear HO221
  clear BK205
  clear BK206
  clear BK218
  clear BK222
  clear HB
  have HO210 := n0_
  have HO216 := n1_
  have HO221 := n2_
  have BK205 := n3_
  have BK206 := n4_
  have BK218 := n5_
  have BK222 := n6_
  have HB := n7_
  clear n0_ n1_ n2_ n3_ n4_ n5_ n6_ n7_
  refine start_ (n := 10) (S := fun w' => w'.cell? ⟨gb222, 0, none⟩ = some (.slice Ao35 t219.length co35) ∧ w'.cell? ⟨gb206, 0, none⟩ = some (.int .i64 a1_0) ∧ w'.cell? ⟨gb206, 1, none⟩ = some (.int .i64 a1_1) ∧ w'.cell? ⟨gb206, 2, none⟩ = some (.int .i64 a1_2)) (ds := []) #[false, false, false, false, false, false, false, false, false, false] (by kernel_rfl) rfl rfl ⟨(blk_cell BK222.out 0).trans rfl, (blk_cell BK206.out 0).trans rfl, (blk_cell BK206.out 1).trans rfl, (blk_cell BK206.out 2).trans rfl⟩ (fun hHeld => ?_); refine with_tabW laws_FnExactAddClue.tab7 laws_FnExactAddClue.bits7 (fun HT_ HW_ => ?_)
  generalize w40.drew = w41 at HO210 HO216 HO221 BK205 BK206 BK218 BK222 HB hHeld ⊢
  refine take_ (i := 0) (N := some 32) (v := ?_) (a' := ?_) #[true, false, false, false, false, false, false, false, false, false] rfl rfl (take_ofW HT_.out HW_.out (by kernel_rfl)) (fun _ _ _ h => h) (Or.inl ⟨by rfl, ?_⟩) hHeld ?_ ?_
  rotate_left
  ·rintro w' ⟨s0, s1, s2, s3⟩
   go_simp
   with_reducible rfl
  rotate_left
  ·simp only [Act.put, List.setIfInBounds_toArray, List.set_cons_zero, List.set_cons_succ, i64_w, i32_w]
   rfl
  refine take_ (i := 1) (N := some 33) (v := ?_) (a' := ?_) #[true, true, false, false, false, false, false, false, false, false] rfl rfl (take_ofW HT_.out HW_.out (by kernel_rfl)) (fun _ _ _ h => h) (Or.inl ⟨by rfl, ?_⟩) hHeld ?_ ?_
  rotate_left
  ·rintro w' ⟨s0, s1, s2, s3⟩
   go_simp
   with_reducible rfl
  rotate_left
  ·simp only [Act.put, List.setIfInBounds_toArray, List.set_cons_zero, List.set_cons_succ, i64_w, i32_w]
   rfl
  refine join_ (σ := Value × Nat) 2 #[true, true, true, true, true, true, true, true, false, false] (fun s_ => [(34, .agg #[.int .i64 t223, .int .i64 t224, .int .i64 t225]), (35, .tuple #[.agg #[s_.1], .bool t229]), (9, .pointer (some ⟨s_.2, 0, none⟩)), (31, .tuple #[.agg #[s_.1], .bool t229]), (36, .agg #[s_.1]), (37, .bool t229)]) (fun s_ w' => (w'.cell? ⟨gb222, 0, none⟩ = some (.slice Ao35 t219.length co35) ∧ w'.cell? ⟨gb206, 0, none⟩ = some (.int .i64 a1_0) ∧ w'.cell? ⟨gb206, 1, none⟩ = some (.int .i64 a1_1) ∧ w'.cell? ⟨gb206, 2, none⟩ = some (.int .i64 a1_2)) ∧ (Kd.R k39 39 w' w.heap.size (fun k_ => some k_ ≠ (.slice Ao29 t214.length co29 : Value).ownBlock ∧ some k_ ≠ (.slice Ao35 t219.length co35 : Value).ownBlock ∧ some k_ ≠ (s_.1 : Value).ownBlock) v209 t208) ∧ (Kd.R k39 39 w' w.heap.size (fun k_ => some k_ ≠ (v209 : Value).ownBlock ∧ some k_ ≠ (.slice Ao35 t219.length co35 : Value).ownBlock ∧ some k_ ≠ (s_.1 : Value).ownBlock) (.slice Ao29 t214.length co29) t214) ∧ (Kd.R k39 39 w' w.heap.size (fun k_ => some k_ ≠ (v209 : Value).ownBlock ∧ some k_ ≠ (.slice Ao29 t214.length co29 : Value).ownBlock ∧ some k_ ≠ (s_.1 : Value).ownBlock) (.slice Ao35 t219.length co35) t219) ∧ (Kd.R k39 39 w' w.heap.size (fun k_ => some k_ ≠ (v209 : Value).ownBlock ∧ some k_ ≠ (.slice Ao29 t214.length co29 : Value).ownBlock ∧ some k_ ≠ (.slice Ao35 t219.length co35 : Value).ownBlock) s_.1 t226) ∧ (w'.heap[gb205]? = some (.cells #[.slice A0_0 l0_0.length c0_0] 24 (0, 0))) ∧ (w'.heap[gb206]? = some (.cells #[.int .i64 a1_0, .int .i64 a1_1, .int .i64 a1_2] 34 (0, 0))) ∧ (w'.heap[gb218]? = some (.cells #[.slice Ao29 t214.length co29] 29 (0, 0))) ∧ (w'.heap[gb222]? = some (.cells #[.slice Ao35 t219.length co35] 29 (0, 0))) ∧ (w'.heap[s_.2]? = some (.cells #[.slice none 0 0] 29 (0, 0))) ∧ (w.heap.size ≤ s_.2) ∧ (w.heap.size ≤ s_.2) ∧ (gb205 ≠ s_.2) ∧ (s_.2 ≠ gb205) ∧ (gb206 ≠ s_.2) ∧ (s_.2 ≠ gb206) ∧ (gb218 ≠ s_.2) ∧ (s_.2 ≠ gb218) ∧ (gb222 ≠ s_.2) ∧ (s_.2 ≠ gb222) ∧ (Below w.heap.size w w')) ?_ ?_
  rotate_left
  ·intro hCont
   refine two_ (i := 2) (j := 7) (Ni := some 34) (Nj := some 9) #[true, true, true, false, false, false, false, false, false, false] #[true, true, false, false, false, false, false, true, false, false] rfl rfl rfl rfl (two_of HT_.out (by kernel_rfl)) (by decide) (by decide) (fun K hK => ?_) (fun K hK => ?_)
   ·skip
    refine goes_ Try.func21 (by kernel_rfl) rfl #[.agg #[.int .i64 a1_0, .int .i64 a1_1, .int .i64 a1_2]] (by rfl) rfl rfl (by (try simp only [List.map_toArray, List.map_cons, List.map_nil]); first | done | rfl | (simp only [List.length_drop, List.length_take]; rfl)) ?_
    with_reducible refine (laws_toClue.calls a1_0 a1_1 a1_2 t223 t224 t225 _ A14.out).mono ?_
    rintro e w42 ⟨rfl, hb⟩
    refine ⟨_, rfl, ?_⟩
    have n0_ := Aside0.mk (Kd.R_below (rk HO210.out) hb)
    have n1_ := Aside0.mk (Kd.R_below (rk HO216.out) hb)
    have n2_ := Aside0.mk (Kd.R_below (rk HO221.out) hb)
    have n3_ := Aside0.mk (blk_below (g := gb205) (o := .cells #[.slice A0_0 l0_0.length c0_0] 24 (0, 0)) (bk BK205.out) hb)
    have n4_ := Aside0.mk (blk_below (g := gb206) (o := .cells #[.int .i64 a1_0, .int .i64 a1_1, .int .i64 a1_2] 34 (0, 0)) (bk BK206.out) hb)
    have n5_ := Aside0.mk (blk_below (g := gb218) (o := .cells #[.slice Ao29 t214.length co29] 29 (0, 0)) (bk BK218.out) hb)
    have n6_ := Aside0.mk (blk_below (g := gb222) (o := .cells #[.slice Ao35 t219.length co35] 29 (0, 0)) (bk BK222.out) hb)
    have n7_ := Aside0.mk (below_step (hB HB.out) hb)
    clear HO210
    clear HO216
    clear HO221
    clear BK205
    clear BK206
    clear BK218
    clear BK222
    clear HB
    have HO210 := n0_
    have HO216 := n1_
    have HO221 := n2_
    have BK205 := n3_
    have BK206 := n4_
    have BK218 := n5_
    have BK222 := n6_
    have HB := n7_
    clear n0_ n1_ n2_ n3_ n4_ n5_ n6_ n7_
    (try clear hb)
    (try clear hb2)
    (try clear hk)
    (try clear hi)
    refine hK.out _ _ ⟨(blk_cell BK222.out 0).trans rfl, (blk_cell BK206.out 0).trans rfl, (blk_cell BK206.out 1).trans rfl, (blk_cell BK206.out 2).trans rfl⟩ (fun hHeld => ?_)
    clear hK K
    refine norm_ (a' := ?_) ?_ ?_
    rotate_left
    ·show Act.put _ (some 34) _ = _
     simp only [Act.put, List.setIfInBounds_toArray, List.set_cons_zero, List.set_cons_succ, i64_w, i32_w]
     rfl
    refine two_ (i := 3) (j := 7) (Ni := some 35) (Nj := some 9) #[true, true, true, true, false, false, false, false, false, false] #[true, true, true, false, false, false, false, true, false, false] rfl rfl rfl rfl (two_of HT_.out (by kernel_rfl)) (by decide) (by decide) (fun K hK => ?_) (fun K hK => ?_)
    ·skip
     refine goes_ Try.func25 (by kernel_rfl) rfl #[.agg #[.slice Ao35 t219.length co35], .agg #[.int .i64 t223, .int .i64 t224, .int .i64 t225]] (by rfl) rfl rfl (by (try simp only [List.map_toArray, List.map_cons, List.map_nil]); first | done | rfl | (simp only [List.length_drop, List.length_take]; rfl)) ?_
     with_reducible refine (impl_AddClue.calls k _ _ t219 t223 t224 t225 t226 t229 _ ?side1 ?side2 A15.out).mono ?_
     (case side1 => repeat (first | exact (Kd.R_reads' HO221.out).2.2 | (with_reducible refine Kd.C_alloc ?_ _) | (with_reducible refine Kd.C_drewN ?_ _) | (with_reducible refine Kd.C_drew ?_)))
     (case side2 => exact (Kd.R_reads' HO221.out).2.1)
     rintro e w43 ⟨v227, rfl, ho0, hb⟩
     refine ⟨_, rfl, ?_⟩
     have n0_ := Aside0.mk (Kd.R_elder' (rk HO210.out) (Kd.R_base ho0) hb)
     have n1_ := Aside0.mk (Kd.R_elder' (rk HO216.out) (Kd.R_base ho0) hb)
     have n2_ := Aside0.mk (Kd.R_elder' (rk HO221.out) (Kd.R_base ho0) hb)
     have n3_ := Aside0.mk (Kd.R_lower (Kd.R_new' (Kd.R_new' (Kd.R_new' ho0 (Kd.R_lt (rk HO210.out))) (Kd.R_lt (rk HO216.out))) (Kd.R_lt (rk HO221.out))) (below_size (hB HB.out)))
     have n4_ := Aside0.mk (blk_below (g := gb205) (o := .cells #[.slice A0_0 l0_0.length c0_0] 24 (0, 0)) (bk BK205.out) hb)
     have n5_ := Aside0.mk (blk_below (g := gb206) (o := .cells #[.int .i64 a1_0, .int .i64 a1_1, .int .i64 a1_2] 34 (0, 0)) (bk BK206.out) hb)
     have n6_ := Aside0.mk (blk_below (g := gb218) (o := .cells #[.slice Ao29 t214.length co29] 29 (0, 0)) (bk BK218.out) hb)
     have n7_ := Aside0.mk (blk_below (g := gb222) (o := .cells #[.slice Ao35 t219.length co35] 29 (0, 0)) (bk BK222.out) hb)
     have n8_ := Aside0.mk (below_step (hB HB.out) hb)
     clear HO210
     clear HO216
     clear HO221
     clear BK205
     clear BK206
     clear BK218
     clear BK222
     clear HB
     have HO210 := n0_
     have HO216 := n1_
     have HO221 := n2_
     have HO228 := n3_
     have BK205 := n4_
     have BK206 := n5_
     have BK218 := n6_
     have BK222 := n7_
     have HB := n8_
     clear n0_ n1_ n2_ n3_ n4_ n5_ n6_ n7_ n8_
     (try clear hb)
     (try clear hb2)
     (try clear hk)
     (try clear hi)
     (try clear ho0)
     refine hK.out _ _ ⟨(blk_cell BK222.out 0).trans rfl, (blk_cell BK206.out 0).trans rfl, (blk_cell BK206.out 1).trans rfl, (blk_cell BK206.out 2).trans rfl⟩ (fun hHeld => ?_)
     clear hK K
     refine norm_ (a' := ?_) ?_ ?_
     rotate_left
     ·show Act.put _ (some 35) _ = _
      simp only [Act.put, List.setIfInBounds_toArray, List.set_cons_zero, List.set_cons_succ, i64_w, i32_w]
      rfl
     refine pure_ (i := 4) (N := some 31) (v := ?_) (a' := ?_) #[true, true, true, true, true, false, false, false, false, false] rfl rfl (any_of HT_.out (by kernel_rfl)) (fun _ _ _ h => h) (Or.inl ⟨by rfl, ?_⟩) ?_ ?_
     rotate_left
     ·intro w'
      go_simp
      with_reducible rfl
     rotate_left
     ·simp only [Act.put, List.setIfInBounds_toArray, List.set_cons_zero, List.set_cons_succ, i64_w, i32_w]
      rfl
     refine pure_ (i := 5) (N := some 36) (v := ?_) (a' := ?_) #[true, true, true, true, true, true, false, false, false, false] rfl rfl (any_of HT_.out (by kernel_rfl)) (fun _ _ _ h => h) (Or.inl ⟨by rfl, ?_⟩) ?_ ?_
     rotate_left
     ·intro w'
      go_simp
      with_reducible rfl
     rotate_left
     ·simp only [Act.put, List.setIfInBounds_toArray, List.set_cons_zero, List.set_cons_succ, i64_w, i32_w]
      rfl
     refine pure_ (i := 6) (N := some 37) (v := ?_) (a' := ?_) #[true, true, true, true, true, true, true, false, false, false] rfl rfl (any_of HT_.out (by kernel_rfl)) (fun _ _ _ h => h) (Or.inl ⟨by rfl, ?_⟩) ?_ ?_
     rotate_left
     ·intro w'
      go_simp
      with_reducible rfl
     rotate_left
     ·simp only [Act.put, List.setIfInBounds_toArray, List.set_cons_zero, List.set_cons_succ, i64_w, i32_w]
      rfl
     refine one_ (i := 7) (N := some 9) #[true, true, true, true, true, true, true, true, false, false] rfl rfl (one_of HT_.out (by kernel_rfl)) (by decide) (fun K hK => ?_)
     refine box_step ?hg (N := 9) ?hd (cs := #[.slice none 0 0]) (t := 29) ?hr ?_; (case hd => rfl); (case hg => rfl); (case hr => first | (go_simp; done) | (go_simp; rfl))
     intro gb230 hg w44 hbox hb
     have n0_ := Aside0.mk (Kd.R_below (rk HO210.out) hb)
     have n1_ := Aside0.mk (Kd.R_below (rk HO216.out) hb)
     have n2_ := Aside0.mk (Kd.R_below (rk HO221.out) hb)
     have n3_ := Aside0.mk (Kd.R_below (rk HO228.out) hb)
     have n4_ := Aside0.mk (blk_below (g := gb205) (o := .cells #[.slice A0_0 l0_0.length c0_0] 24 (0, 0)) (bk BK205.out) hb)
     have n5_ := Aside0.mk (blk_below (g := gb206) (o := .cells #[.int .i64 a1_0, .int .i64 a1_1, .int .i64 a1_2] 34 (0, 0)) (bk BK206.out) hb)
     have n6_ := Aside0.mk (blk_below (g := gb218) (o := .cells #[.slice Ao29 t214.length co29] 29 (0, 0)) (bk BK218.out) hb)
     have n7_ := Aside0.mk (blk_below (g := gb222) (o := .cells #[.slice Ao35 t219.length co35] 29 (0, 0)) (bk BK222.out) hb)
     have n8_ := Aside0.mk (below_step (hB HB.out) hb)
     have n9_ := Aside0.mk (hbox)
     have n10_ := Aside0.mk ((by rw [hg]; exact (below_size (hB HB.out)) : w.heap.size ≤ gb230))
     have n11_ := Aside0.mk ((by rw [hg]; exact (below_size (hB HB.out)) : w.heap.size ≤ gb230))
     have n12_ := Aside0.mk ((by rw [hg]; exact Nat.ne_of_lt (blk_lt (g := gb205) (o := .cells #[.slice A0_0 l0_0.length c0_0] 24 (0, 0)) (bk BK205.out)) : gb205 ≠ gb230))
     have n13_ := Aside0.mk ((by rw [hg]; exact Nat.ne_of_gt (blk_lt (g := gb205) (o := .cells #[.slice A0_0 l0_0.length c0_0] 24 (0, 0)) (bk BK205.out)) : gb230 ≠ gb205))
     have n14_ := Aside0.mk ((by rw [hg]; exact Nat.ne_of_lt (blk_lt (g := gb206) (o := .cells #[.int .i64 a1_0, .int .i64 a1_1, .int .i64 a1_2] 34 (0, 0)) (bk BK206.out)) : gb206 ≠ gb230))
     have n15_ := Aside0.mk ((by rw [hg]; exact Nat.ne_of_gt (blk_lt (g := gb206) (o := .cells #[.int .i64 a1_0, .int .i64 a1_1, .int .i64 a1_2] 34 (0, 0)) (bk BK206.out)) : gb230 ≠ gb206))
     have n16_ := Aside0.mk ((by rw [hg]; exact Nat.ne_of_lt (blk_lt (g := gb218) (o := .cells #[.slice Ao29 t214.length co29] 29 (0, 0)) (bk BK218.out)) : gb218 ≠ gb230))
     have n17_ := Aside0.mk ((by rw [hg]; exact Nat.ne_of_gt (blk_lt (g := gb218) (o := .cells #[.slice Ao29 t214.length co29] 29 (0, 0)) (bk BK218.out)) : gb230 ≠ gb218))
     have n18_ := Aside0.mk ((by rw [hg]; exact Nat.ne_of_lt (blk_lt (g := gb222) (o := .cells #[.slice Ao35 t219.length co35] 29 (0, 0)) (bk BK222.out)) : gb222 ≠ gb230))
     have n19_ := Aside0.mk ((by rw [hg]; exact Nat.ne_of_gt (blk_lt (g := gb222) (o := .cells #[.slice Ao35 t219.length co35] 29 (0, 0)) (bk BK222.out)) : gb230 ≠ gb222))
     clear HO210
     clear HO216
     clear HO221
     clear HO228
     clear BK205
     clear BK206
     clear BK218
     clear BK222
     clear HB
     have HO210 := n0_
     have HO216 := n1_
     have HO221 := n2_
     have HO228 := n3_
     have BK205 := n4_
     have BK206 := n5_
     have BK218 := n6_
     have BK222 := n7_
     have HB := n8_
     have BK230 := n9_
     have GW230 := n10_
     have GE230 := n11_
     have NB205_230 := n12_
     have NB230_205 := n13_
     have NB206_230 := n14_
     have NB230_206 := n15_
     have NB218_230 := n16_
     have NB230_218 := n17_
     have NB222_230 := n18_
     have NB230_222 := n19_
     clear n0_ n1_ n2_ n3_ n4_ n5_ n6_ n7_ n8_ n9_ n10_ n11_ n12_ n13_ n14_ n15_ n16_ n17_ n18_ n19_
     clear hb hbox hg
     refine hK.out _ _ ⟨(blk_cell BK222.out 0).trans rfl, (blk_cell BK206.out 0).trans rfl, (blk_cell BK206.out 1).trans rfl, (blk_cell BK206.out 2).trans rfl⟩ (fun hHeld => ?_)
     clear hK K
     refine norm_ (a' := ?_) ?_ ?_
     rotate_left
     ·show Act.put _ (some 9) _ = _
      simp only [Act.put, List.setIfInBounds_toArray, List.set_cons_zero, List.set_cons_succ, i64_w, i32_w]
      rfl
     exact norm_ (by simp only [putAll, Act.put, List.setIfInBounds_toArray, List.set_cons_zero, List.set_cons_succ]) (hCont (v227, gb230) _ ⟨hHeld, (rk (Kd.R_mono HO210.out (fun _ hk => ⟨hk.1.1, ⟨hk.1.2, hk.2⟩⟩))), (rk (Kd.R_mono HO216.out (fun _ hk => ⟨hk.1.1, ⟨hk.1.2, hk.2⟩⟩))), (rk (Kd.R_mono HO221.out (fun _ hk => ⟨hk.1.1, ⟨hk.1.2, hk.2⟩⟩))), (rk (Kd.R_mono HO228.out (fun _ hk => ⟨hk.1.1.2, ⟨hk.1.2, hk.2⟩⟩))), (bk BK205.out), (bk BK206.out), (bk BK218.out), (bk BK222.out), (bk BK230.out), GW230.out, GE230.out, NB205_230.out, NB230_205.out, NB206_230.out, NB230_206.out, NB218_230.out, NB230_218.out, NB222_230.out, NB230_222.out, (hB HB.out)⟩)
    ·skip
     refine box_step ?hg (N := 9) ?hd (cs := #[.slice none 0 0]) (t := 29) ?hr ?_; (case hd => rfl); (case hg => rfl); (case hr => first | (go_simp; done) | (go_simp; rfl))
     intro gb230 hg w43 hbox hb
     have n0_ := Aside0.mk (Kd.R_below (rk HO210.out) hb)
     have n1_ := Aside0.mk (Kd.R_below (rk HO216.out) hb)
     have n2_ := Aside0.mk (Kd.R_below (rk HO221.out) hb)
     have n3_ := Aside0.mk (blk_below (g := gb205) (o := .cells #[.slice A0_0 l0_0.length c0_0] 24 (0, 0)) (bk BK205.out) hb)
     have n4_ := Aside0.mk (blk_below (g := gb206) (o := .cells #[.int .i64 a1_0, .int .i64 a1_1, .int .i64 a1_2] 34 (0, 0)) (bk BK206.out) hb)
     have n5_ := Aside0.mk (blk_below (g := gb218) (o := .cells #[.slice Ao29 t214.length co29] 29 (0, 0)) (bk BK218.out) hb)
     have n6_ := Aside0.mk (blk_below (g := gb222) (o := .cells #[.slice Ao35 t219.length co35] 29 (0, 0)) (bk BK222.out) hb)
     have n7_ := Aside0.mk (below_step (hB HB.out) hb)
     have n8_ := Aside0.mk (hbox)
     have n9_ := Aside0.mk ((by rw [hg]; exact (below_size (hB HB.out)) : w.heap.size ≤ gb230))
     have n10_ := Aside0.mk ((by rw [hg]; exact (below_size (hB HB.out)) : w.heap.size ≤ gb230))
     have n11_ := Aside0.mk ((by rw [hg]; exact Nat.ne_of_lt (blk_lt (g := gb205) (o := .cells #[.slice A0_0 l0_0.length c0_0] 24 (0, 0)) (bk BK205.out)) : gb205 ≠ gb230))
     have n12_ := Aside0.mk ((by rw [hg]; exact Nat.ne_of_gt (blk_lt (g := gb205) (o := .cells #[.slice A0_0 l0_0.length c0_0] 24 (0, 0)) (bk BK205.out)) : gb230 ≠ gb205))
     have n13_ := Aside0.mk ((by rw [hg]; exact Nat.ne_of_lt (blk_lt (g := gb206) (o := .cells #[.int .i64 a1_0, .int .i64 a1_1, .int .i64 a1_2] 34 (0, 0)) (bk BK206.out)) : gb206 ≠ gb230))
     have n14_ := Aside0.mk ((by rw [hg]; exact Nat.ne_of_gt (blk_lt (g := gb206) (o := .cells #[.int .i64 a1_0, .int .i64 a1_1, .int .i64 a1_2] 34 (0, 0)) (bk BK206.out)) : gb230 ≠ gb206))
     have n15_ := Aside0.mk ((by rw [hg]; exact Nat.ne_of_lt (blk_lt (g := gb218) (o := .cells #[.slice Ao29 t214.length co29] 29 (0, 0)) (bk BK218.out)) : gb218 ≠ gb230))
     have n16_ := Aside0.mk ((by rw [hg]; exact Nat.ne_of_gt (blk_lt (g := gb218) (o := .cells #[.slice Ao29 t214.length co29] 29 (0, 0)) (bk BK218.out)) : gb230 ≠ gb218))
     have n17_ := Aside0.mk ((by rw [hg]; exact Nat.ne_of_lt (blk_lt (g := gb222) (o := .cells #[.slice Ao35 t219.length co35] 29 (0, 0)) (bk BK222.out)) : gb222 ≠ gb230))
     have n18_ := Aside0.mk ((by rw [hg]; exact Nat.ne_of_gt (blk_lt (g := gb222) (o := .cells #[.slice Ao35 t219.length co35] 29 (0, 0)) (bk BK222.out)) : gb230 ≠ gb222))
     clear HO210
     clear HO216
     clear HO221
     clear BK205
     clear BK206
     clear BK218
     clear BK222
     clear HB
     have HO210 := n0_
     have HO216 := n1_
     have HO221 := n2_
     have BK205 := n3_
     have BK206 := n4_
     have BK218 := n5_
     have BK222 := n6_
     have HB := n7_
     have BK230 := n8_
     have GW230 := n9_
     have GE230 := n10_
     have NB205_230 := n11_
     have NB230_205 := n12_
     have NB206_230 := n13_
     have NB230_206 := n14_
     have NB218_230 := n15_
     have NB230_218 := n16_
     have NB222_230 := n17_
     have NB230_222 := n18_
     clear n0_ n1_ n2_ n3_ n4_ n5_ n6_ n7_ n8_ n9_ n10_ n11_ n12_ n13_ n14_ n15_ n16_ n17_ n18_
     clear hb hbox hg
     refine hK.out _ _ ⟨(blk_cell BK222.out 0).trans rfl, (blk_cell BK206.out 0).trans rfl, (blk_cell BK206.out 1).trans rfl, (blk_cell BK206.out 2).trans rfl⟩ (fun hHeld => ?_)
     clear hK K
     refine norm_ (a' := ?_) ?_ ?_
     rotate_left
     ·show Act.put _ (some 9) _ = _
      simp only [Act.put, List.setIfInBounds_toArray, List.set_cons_zero, List.set_cons_succ, i64_w, i32_w]
      rfl
     refine one_ (i := 3) (N := some 35) #[true, true, true, true, false, false, false, true, false, false] rfl rfl (one_of HT_.out (by kernel_rfl)) (by decide) (fun K hK => ?_)
     refine goes_ Try.func25 (by kernel_rfl) rfl #[.agg #[.slice Ao35 t219.length co35], .agg #[.int .i64 t223, .int .i64 t224, .int .i64 t225]] (by rfl) rfl rfl (by (try simp only [List.map_toArray, List.map_cons, List.map_nil]); first | done | rfl | (simp only [List.length_drop, List.length_take]; rfl)) ?_
     with_reducible refine (impl_AddClue.calls k _ _ t219 t223 t224 t225 t226 t229 _ ?side1 ?side2 A15.out).mono ?_
     (case side1 => repeat (first | exact (Kd.R_reads' HO221.out).2.2 | (with_reducible refine Kd.C_alloc ?_ _) | (with_reducible refine Kd.C_drewN ?_ _) | (with_reducible refine Kd.C_drew ?_)))
     (case side2 => exact (Kd.R_reads' HO221.out).2.1)
     rintro e w44 ⟨v227, rfl, ho0, hb⟩
     refine ⟨_, rfl, ?_⟩
     have n0_ := Aside0.mk (Kd.R_elder' (rk HO210.out) (Kd.R_base ho0) hb)
     have n1_ := Aside0.mk (Kd.R_elder' (rk HO216.out) (Kd.R_base ho0) hb)
     have n2_ := Aside0.mk (Kd.R_elder' (rk HO221.out) (Kd.R_base ho0) hb)
     have n3_ := Aside0.mk (Kd.R_lower (Kd.R_new' (Kd.R_new' (Kd.R_new' ho0 (Kd.R_lt (rk HO210.out))) (Kd.R_lt (rk HO216.out))) (Kd.R_lt (rk HO221.out))) (below_size (hB HB.out)))
     have n4_ := Aside0.mk (blk_below (g := gb205) (o := .cells #[.slice A0_0 l0_0.length c0_0] 24 (0, 0)) (bk BK205.out) hb)
     have n5_ := Aside0.mk (blk_below (g := gb206) (o := .cells #[.int .i64 a1_0, .int .i64 a1_1, .int .i64 a1_2] 34 (0, 0)) (bk BK206.out) hb)
     have n6_ := Aside0.mk (blk_below (g := gb218) (o := .cells #[.slice Ao29 t214.length co29] 29 (0, 0)) (bk BK218.out) hb)
     have n7_ := Aside0.mk (blk_below (g := gb222) (o := .cells #[.slice Ao35 t219.length co35] 29 (0, 0)) (bk BK222.out) hb)
     have n8_ := Aside0.mk (blk_below (g := gb230) (o := .cells #[.slice none 0 0] 29 (0, 0)) (bk BK230.out) hb)
     have n9_ := Aside0.mk (below_step (hB HB.out) hb)
     clear HO210
     clear HO216
     clear HO221
     clear BK205
     clear BK206
     clear BK218
     clear BK222
     clear BK230
     clear HB
     have HO210 := n0_
     have HO216 := n1_
     have HO221 := n2_
     have HO228 := n3_
     have BK205 := n4_
     have BK206 := n5_
     have BK218 := n6_
     have BK222 := n7_
     have BK230 := n8_
     have HB := n9_
     clear n0_ n1_ n2_ n3_ n4_ n5_ n6_ n7_ n8_ n9_
     (try clear hb)
     (try clear hb2)
     (try clear hk)
     (try clear hi)
     (try clear ho0)
     refine hK.out _ _ ⟨(blk_cell BK222.out 0).trans rfl, (blk_cell BK206.out 0).trans rfl, (blk_cell BK206.out 1).trans rfl, (blk_cell BK206.out 2).trans rfl⟩ (fun hHeld => ?_)
     clear hK K
     refine norm_ (a' := ?_) ?_ ?_
     rotate_left
     ·show Act.put _ (some 35) _ = _
      simp only [Act.put, List.setIfInBounds_toArray, List.set_cons_zero, List.set_cons_succ, i64_w, i32_w]
      rfl
     refine pure_ (i := 4) (N := some 31) (v := ?_) (a' := ?_) #[true, true, true, true, true, false, false, true, false, false] rfl rfl (any_of HT_.out (by kernel_rfl)) (fun _ _ _ h => h) (Or.inl ⟨by rfl, ?_⟩) ?_ ?_
     rotate_left
     ·intro w'
      go_simp
      with_reducible rfl
     rotate_left
     ·simp only [Act.put, List.setIfInBounds_toArray, List.set_cons_zero, List.set_cons_succ, i64_w, i32_w]
      rfl
     refine pure_ (i := 5) (N := some 36) (v := ?_) (a' := ?_) #[true, true, true, true, true, true, false, true, false, false] rfl rfl (any_of HT_.out (by kernel_rfl)) (fun _ _ _ h => h) (Or.inl ⟨by rfl, ?_⟩) ?_ ?_
     rotate_left
     ·intro w'
      go_simp
      with_reducible rfl
     rotate_left
     ·simp only [Act.put, List.setIfInBounds_toArray, List.set_cons_zero, List.set_cons_succ, i64_w, i32_w]
      rfl
     refine pure_ (i := 6) (N := some 37) (v := ?_) (a' := ?_) #[true, true, true, true, true, true, true, true, false, false] rfl rfl (any_of HT_.out (by kernel_rfl)) (fun _ _ _ h => h) (Or.inl ⟨by rfl, ?_⟩) ?_ ?_
     rotate_left
     ·intro w'
      go_simp
      with_reducible rfl
     rotate_left
     ·simp only [Act.put, List.setIfInBounds_toArray, List.set_cons_zero, List.set_cons_succ, i64_w, i32_w]
      rfl
     exact norm_ (by simp only [putAll, Act.put, List.setIfInBounds_toArray, List.set_cons_zero, List.set_cons_succ]) (hCont (v227, gb230) _ ⟨hHeld, (rk (Kd.R_mono HO210.out (fun _ hk => ⟨hk.1.1, ⟨hk.1.2, hk.2⟩⟩))), (rk (Kd.R_mono HO216.out (fun _ hk => ⟨hk.1.1, ⟨hk.1.2, hk.2⟩⟩))), (rk (Kd.R_mono HO221.out (fun _ hk => ⟨hk.1.1, ⟨hk.1.2, hk.2⟩⟩))), (rk (Kd.R_mono HO228.out (fun _ hk => ⟨hk.1.1.2, ⟨hk.1.2, hk.2⟩⟩))), (bk BK205.out), (bk BK206.out), (bk BK218.out), (bk BK222.out), (bk BK230.out), GW230.out, GE230.out, NB205_230.out, NB230_205.out, NB206_230.out, NB230_206.out, NB218_230.out, NB230_218.out, NB222_230.out, NB230_222.out, (hB HB.out)⟩)
   ·skip
    refine box_step ?hg (N := 9) ?hd (cs := #[.slice none 0 0]) (t := 29) ?hr ?_; (case hd => rfl); (case hg => rfl); (case hr => first | (go_simp; done) | (go_simp; rfl))
    intro gb230 hg w42 hbox hb
    have n0_ := Aside0.mk (Kd.R_below (rk HO210.out) hb)
    have n1_ := Aside0.mk (Kd.R_below (rk HO216.out) hb)
    have n2_ := Aside0.mk (Kd.R_below (rk HO221.out) hb)
    have n3_ := Aside0.mk (blk_below (g := gb205) (o := .cells #[.slice A0_0 l0_0.length c0_0] 24 (0, 0)) (bk BK205.out) hb)
    have n4_ := Aside0.mk (blk_below (g := gb206) (o := .cells #[.int .i64 a1_0, .int .i64 a1_1, .int .i64 a1_2] 34 (0, 0)) (bk BK206.out) hb)
    have n5_ := Aside0.mk (blk_below (g := gb218) (o := .cells #[.slice Ao29 t214.length co29] 29 (0, 0)) (bk BK218.out) hb)
    have n6_ := Aside0.mk (blk_below (g := gb222) (o := .cells #[.slice Ao35 t219.length co35] 29 (0, 0)) (bk BK222.out) hb)
    have n7_ := Aside0.mk (below_step (hB HB.out) hb)
    have n8_ := Aside0.mk (hbox)
    have n9_ := Aside0.mk ((by rw [hg]; exact (below_size (hB HB.out)) : w.heap.size ≤ gb230))
    have n10_ := Aside0.mk ((by rw [hg]; exact (below_size (hB HB.out)) : w.heap.size ≤ gb230))
    have n11_ := Aside0.mk ((by rw [hg]; exact Nat.ne_of_lt (blk_lt (g := gb205) (o := .cells #[.slice A0_0 l0_0.length c0_0] 24 (0, 0)) (bk BK205.out)) : gb205 ≠ gb230))
    have n12_ := Aside0.mk ((by rw [hg]; exact Nat.ne_of_gt (blk_lt (g := gb205) (o := .cells #[.slice A0_0 l0_0.length c0_0] 24 (0, 0)) (bk BK205.out)) : gb230 ≠ gb205))
    have n13_ := Aside0.mk ((by rw [hg]; exact Nat.ne_of_lt (blk_lt (g := gb206) (o := .cells #[.int .i64 a1_0, .int .i64 a1_1, .int .i64 a1_2] 34 (0, 0)) (bk BK206.out)) : gb206 ≠ gb230))
    have n14_ := Aside0.mk ((by rw [hg]; exact Nat.ne_of_gt (blk_lt (g := gb206) (o := .cells #[.int .i64 a1_0, .int .i64 a1_1, .int .i64 a1_2] 34 (0, 0)) (bk BK206.out)) : gb230 ≠ gb206))
    have n15_ := Aside0.mk ((by rw [hg]; exact Nat.ne_of_lt (blk_lt (g := gb218) (o := .cells #[.slice Ao29 t214.length co29] 29 (0, 0)) (bk BK218.out)) : gb218 ≠ gb230))
    have n16_ := Aside0.mk ((by rw [hg]; exact Nat.ne_of_gt (blk_lt (g := gb218) (o := .cells #[.slice Ao29 t214.length co29] 29 (0, 0)) (bk BK218.out)) : gb230 ≠ gb218))
    have n17_ := Aside0.mk ((by rw [hg]; exact Nat.ne_of_lt (blk_lt (g := gb222) (o := .cells #[.slice Ao35 t219.length co35] 29 (0, 0)) (bk BK222.out)) : gb222 ≠ gb230))
    have n18_ := Aside0.mk ((by rw [hg]; exact Nat.ne_of_gt (blk_lt (g := gb222) (o := .cells #[.slice Ao35 t219.length co35] 29 (0, 0)) (bk BK222.out)) : gb230 ≠ gb222))
    clear HO210
    clear HO216
    clear HO221
    clear BK205
    clear BK206
    clear BK218
    clear BK222
    clear HB
    have HO210 := n0_
    have HO216 := n1_
    have HO221 := n2_
    have BK205 := n3_
    have BK206 := n4_
    have BK218 := n5_
    have BK222 := n6_
    have HB := n7_
    have BK230 := n8_
    have GW230 := n9_
    have GE230 := n10_
    have NB205_230 := n11_
    have NB230_205 := n12_
    have NB206_230 := n13_
    have NB230_206 := n14_
    have NB218_230 := n15_
    have NB230_218 := n16_
    have NB222_230 := n17_
    have NB230_222 := n18_
    clear n0_ n1_ n2_ n3_ n4_ n5_ n6_ n7_ n8_ n9_ n10_ n11_ n12_ n13_ n14_ n15_ n16_ n17_ n18_
    clear hb hbox hg
    refine hK.out _ _ ⟨(blk_cell BK222.out 0).trans rfl, (blk_cell BK206.out 0).trans rfl, (blk_cell BK206.out 1).trans rfl, (blk_cell BK206.out 2).trans rfl⟩ (fun hHeld => ?_)
    clear hK K
    refine norm_ (a' := ?_) ?_ ?_
    rotate_left
    ·show Act.put _ (some 9) _ = _
     simp only [Act.put, List.setIfInBounds_toArray, List.set_cons_zero, List.set_cons_succ, i64_w, i32_w]
     rfl
    refine one_ (i := 2) (N := some 34) #[true, true, true, false, false, false, false, true, false, false] rfl rfl (one_of HT_.out (by kernel_rfl)) (by decide) (fun K hK => ?_)
    refine goes_ Try.func21 (by kernel_rfl) rfl #[.agg #[.int .i64 a1_0, .int .i64 a1_1, .int .i64 a1_2]] (by rfl) rfl rfl (by (try simp only [List.map_toArray, List.map_cons, List.map_nil]); first | done | rfl | (simp only [List.length_drop, List.length_take]; rfl)) ?_
    with_reducible refine (laws_toClue.calls a1_0 a1_1 a1_2 t223 t224 t225 _ A14.out).mono ?_
    rintro e w43 ⟨rfl, hb⟩
    refine ⟨_, rfl, ?_⟩
    have n0_ := Aside0.mk (Kd.R_below (rk HO210.out) hb)
    have n1_ := Aside0.mk (Kd.R_below (rk HO216.out) hb)
    have n2_ := Aside0.mk (Kd.R_below (rk HO221.out) hb)
    have n3_ := Aside0.mk (blk_below (g := gb205) (o := .cells #[.slice A0_0 l0_0.length c0_0] 24 (0, 0)) (bk BK205.out) hb)
    have n4_ := Aside0.mk (blk_below (g := gb206) (o := .cells #[.int .i64 a1_0, .int .i64 a1_1, .int .i64 a1_2] 34 (0, 0)) (bk BK206.out) hb)
    have n5_ := Aside0.mk (blk_below (g := gb218) (o := .cells #[.slice Ao29 t214.length co29] 29 (0, 0)) (bk BK218.out) hb)
    have n6_ := Aside0.mk (blk_below (g := gb222) (o := .cells #[.slice Ao35 t219.length co35] 29 (0, 0)) (bk BK222.out) hb)
    have n7_ := Aside0.mk (blk_below (g := gb230) (o := .cells #[.slice none 0 0] 29 (0, 0)) (bk BK230.out) hb)
    have n8_ := Aside0.mk (below_step (hB HB.out) hb)
    clear HO210
    clear HO216
    clear HO221
    clear BK205
    clear BK206
    clear BK218
    clear BK222
    clear BK230
    clear HB
    have HO210 := n0_
    have HO216 := n1_
    have HO221 := n2_
    have BK205 := n3_
    have BK206 := n4_
    have BK218 := n5_
    have BK222 := n6_
    have BK230 := n7_
    have HB := n8_
    clear n0_ n1_ n2_ n3_ n4_ n5_ n6_ n7_ n8_
    (try clear hb)
    (try clear hb2)
    (try clear hk)
    (try clear hi)
    refine hK.out _ _ ⟨(blk_cell BK222.out 0).trans rfl, (blk_cell BK206.out 0).trans rfl, (blk_cell BK206.out 1).trans rfl, (blk_cell BK206.out 2).trans rfl⟩ (fun hHeld => ?_)
    clear hK K
    refine norm_ (a' := ?_) ?_ ?_
    rotate_left
    ·show Act.put _ (some 34) _ = _
     simp only [Act.put, List.setIfInBounds_toArray, List.set_cons_zero, List.set_cons_succ, i64_w, i32_w]
     rfl
    refine one_ (i := 3) (N := some 35) #[true, true, true, true, false, false, false, true, false, false] rfl rfl (one_of HT_.out (by kernel_rfl)) (by decide) (fun K hK => ?_)
    refine goes_ Try.func25 (by kernel_rfl) rfl #[.agg #[.slice Ao35 t219.length co35], .agg #[.int .i64 t223, .int .i64 t224, .int .i64 t225]] (by rfl) rfl rfl (by (try simp only [List.map_toArray, List.map_cons, List.map_nil]); first | done | rfl | (simp only [List.length_drop, List.length_take]; rfl)) ?_
    with_reducible refine (impl_AddClue.calls k _ _ t219 t223 t224 t225 t226 t229 _ ?side1 ?side2 A15.out).mono ?_
    (case side1 => repeat (first | exact (Kd.R_reads' HO221.out).2.2 | (with_reducible refine Kd.C_alloc ?_ _) | (with_reducible refine Kd.C_drewN ?_ _) | (with_reducible refine Kd.C_drew ?_)))
    (case side2 => exact (Kd.R_reads' HO221.out).2.1)
    rintro e w44 ⟨v227, rfl, ho0, hb⟩
    refine ⟨_, rfl, ?_⟩
    have n0_ := Aside0.mk (Kd.R_elder' (rk HO210.out) (Kd.R_base ho0) hb)
    have n1_ := Aside0.mk (Kd.R_elder' (rk HO216.out) (Kd.R_base ho0) hb)
    have n2_ := Aside0.mk (Kd.R_elder' (rk HO221.out) (Kd.R_base ho0) hb)
    have n3_ := Aside0.mk (Kd.R_lower (Kd.R_new' (Kd.R_new' (Kd.R_new' ho0 (Kd.R_lt (rk HO210.out))) (Kd.R_lt (rk HO216.out))) (Kd.R_lt (rk HO221.out))) (below_size (hB HB.out)))
    have n4_ := Aside0.mk (blk_below (g := gb205) (o := .cells #[.slice A0_0 l0_0.length c0_0] 24 (0, 0)) (bk BK205.out) hb)
    have n5_ := Aside0.mk (blk_below (g := gb206) (o := .cells #[.int .i64 a1_0, .int .i64 a1_1, .int .i64 a1_2] 34 (0, 0)) (bk BK206.out) hb)
    have n6_ := Aside0.mk (blk_below (g := gb218) (o := .cells #[.slice Ao29 t214.length co29] 29 (0, 0)) (bk BK218.out) hb)
    have n7_ := Aside0.mk (blk_below (g := gb222) (o := .cells #[.slice Ao35 t219.length co35] 29 (0, 0)) (bk BK222.out) hb)
    have n8_ := Aside0.mk (blk_below (g := gb230) (o := .cells #[.slice none 0 0] 29 (0, 0)) (bk BK230.out) hb)
    have n9_ := Aside0.mk (below_step (hB HB.out) hb)
    clear HO210
    clear HO216
    clear HO221
    clear BK205
    clear BK206
    clear BK218
    clear BK222
    clear BK230
    clear HB
    have HO210 := n0_
    have HO216 := n1_
    have HO221 := n2_
    have HO228 := n3_
    have BK205 := n4_
    have BK206 := n5_
    have BK218 := n6_
    have BK222 := n7_
    have BK230 := n8_
    have HB := n9_
    clear n0_ n1_ n2_ n3_ n4_ n5_ n6_ n7_ n8_ n9_
    (try clear hb)
    (try clear hb2)
    (try clear hk)
    (try clear hi)
    (try clear ho0)
    refine hK.out _ _ ⟨(blk_cell BK222.out 0).trans rfl, (blk_cell BK206.out 0).trans rfl, (blk_cell BK206.out 1).trans rfl, (blk_cell BK206.out 2).trans rfl⟩ (fun hHeld => ?_)
    clear hK K
    refine norm_ (a' := ?_) ?_ ?_
    rotate_left
    ·show Act.put _ (some 35) _ = _
     simp only [Act.put, List.setIfInBounds_toArray, List.set_cons_zero, List.set_cons_succ, i64_w, i32_w]
     rfl
    refine pure_ (i := 4) (N := some 31) (v := ?_) (a' := ?_) #[true, true, true, true, true, false, false, true, false, false] rfl rfl (any_of HT_.out (by kernel_rfl)) (fun _ _ _ h => h) (Or.inl ⟨by rfl, ?_⟩) ?_ ?_
    rotate_left
    ·intro w'
     go_simp
     with_reducible rfl
    rotate_left
    ·simp only [Act.put, List.setIfInBounds_toArray, List.set_cons_zero, List.set_cons_succ, i64_w, i32_w]
     rfl
    refine pure_ (i := 5) (N := some 36) (v := ?_) (a' := ?_) #[true, true, true, true, true, true, false, true, false, false] rfl rfl (any_of HT_.out (by kernel_rfl)) (fun _ _ _ h => h) (Or.inl ⟨by rfl, ?_⟩) ?_ ?_
    rotate_left
    ·intro w'
     go_simp
     with_reducible rfl
    rotate_left
    ·simp only [Act.put, List.setIfInBounds_toArray, List.set_cons_zero, List.set_cons_succ, i64_w, i32_w]
     rfl
    refine pure_ (i := 6) (N := some 37) (v := ?_) (a' := ?_) #[true, true, true, true, true, true, true, true, false, false] rfl rfl (any_of HT_.out (by kernel_rfl)) (fun _ _ _ h => h) (Or.inl ⟨by rfl, ?_⟩) ?_ ?_
    rotate_left
    ·intro w'
     go_simp
     with_reducible rfl
    rotate_left
    ·simp only [Act.put, List.setIfInBounds_toArray, List.set_cons_zero, List.set_cons_succ, i64_w, i32_w]
     rfl
    exact norm_ (by simp only [putAll, Act.put, List.setIfInBounds_toArray, List.set_cons_zero, List.set_cons_succ]) (hCont (v227, gb230) _ ⟨hHeld, (rk (Kd.R_mono HO210.out (fun _ hk => ⟨hk.1.1, ⟨hk.1.2, hk.2⟩⟩))), (rk (Kd.R_mono HO216.out (fun _ hk => ⟨hk.1.1, ⟨hk.1.2, hk.2⟩⟩))), (rk (Kd.R_mono HO221.out (fun _ hk => ⟨hk.1.1, ⟨hk.1.2, hk.2⟩⟩))), (rk (Kd.R_mono HO228.out (fun _ hk => ⟨hk.1.1.2, ⟨hk.1.2, hk.2⟩⟩))), (bk BK205.out), (bk BK206.out), (bk BK218.out), (bk BK222.out), (bk BK230.out), GW230.out, GE230.out, NB205_230.out, NB230_205.out, NB206_230.out, NB230_206.out, NB218_230.out, NB230_218.out, NB222_230.out, NB230_222.out, (hB HB.out)⟩)
  rintro ⟨v227, gb230⟩ w45 ⟨hS_, h0_, h1_, h2_, h3_, h4_, h5_, h6_, h7_, h8_, h9_, h10_, h11_, h12_, h13_, h14_, h15_, h16_, h17_, h18_, h19_⟩
  have n0_ : Aside0 (Kd.R k39 39 w45 w.heap.size (fun k_ => some k_ ≠ (.slice Ao29 t214.length co29 : Value).ownBlock ∧ some k_ ≠ (.slice Ao35 t219.length co35 : Value).ownBlock ∧ some k_ ≠ (v227 : Value).ownBlock) v209 t208) := ⟨h0_⟩
  have n1_ : Aside0 (Kd.R k39 39 w45 w.heap.size (fun k_ => some k_ ≠ (v209 : Value).ownBlock ∧ some k_ ≠ (.slice Ao35 t219.length co35 : Value).ownBlock ∧ some k_ ≠ (v227 : Value).ownBlock) (.slice Ao29 t214.length co29) t214) := ⟨h1_⟩
  have n2_ : Aside0 (Kd.R k39 39 w45 w.heap.size (fun k_ => some k_ ≠ (v209 : Value).ownBlock ∧ some k_ ≠ (.slice Ao29 t214.length co29 : Value).ownBlock ∧ some k_ ≠ (v227 : Value).ownBlock) (.slice Ao35 t219.length co35) t219) := ⟨h2_⟩
  have n3_ : Aside0 (Kd.R k39 39 w45 w.heap.size (fun k_ => some k_ ≠ (v209 : Value).ownBlock ∧ some k_ ≠ (.slice Ao29 t214.length co29 : Value).ownBlock ∧ some k_ ≠ (.slice Ao35 t219.length co35 : Value).ownBlock) v227 t226) := ⟨h3_⟩
  have n4_ : Aside0 (w45.heap[gb205]? = some (.cells #[.slice A0_0 l0_0.length c0_0] 24 (0, 0))) := ⟨h4_⟩
  have n5_ : Aside0 (w45.heap[gb206]? = some (.cells #[.int .i64 a1_0, .int .i64 a1_1, .int .i64 a1_2] 34 (0, 0))) := ⟨h5_⟩
  have n6_ : Aside0 (w45.heap[gb218]? = some (.cells #[.slice Ao29 t214.length co29] 29 (0, 0))) := ⟨h6_⟩
  have n7_ : Aside0 (w45.heap[gb222]? = some (.cells #[.slice Ao35 t219.length co35] 29 (0, 0))) := ⟨h7_⟩
  have n8_ : Aside0 (w45.heap[gb230]? = some (.cells #[.slice none 0 0] 29 (0, 0))) := ⟨h8_⟩
  have n9_ : Aside0 (w.heap.size ≤ gb230) := ⟨h9_⟩
  have n10_ : Aside0 (w.heap.size ≤ gb230) := ⟨h10_⟩
  have n11_ : Aside0 (gb205 ≠ gb230) := ⟨h11_⟩
  have n12_ : Aside0 (gb230 ≠ gb205) := ⟨h12_⟩
  have n13_ : Aside0 (gb206 ≠ gb230) := ⟨h13_⟩
  have n14_ : Aside0 (gb230 ≠ gb206) := ⟨h14_⟩
  have n15_ : Aside0 (gb218 ≠ gb230) := ⟨h15_⟩
  have n16_ : Aside0 (gb230 ≠ gb218) := ⟨h16_⟩
  have n17_ : Aside0 (gb222 ≠ gb230) := ⟨h17_⟩
  have n18_ : Aside0 (gb230 ≠ gb222) := ⟨h18_⟩
  have n19_ : Aside0 (Below w.heap.size w w45) := ⟨h19_⟩
  clear HO210
  clear HO216
  clear HO221
  clear BK205
  clear BK206
  clear BK218
  clear BK222
  clear HB
  clear h0_ h1_ h2_ h3_ h4_ h5_ h6_ h7_ h8_ h9_ h10_ h11_ h12_ h13_ h14_ h15_ h16_ h17_ h18_ h19_
  have HO210 := n0_
  have HO216 := n1_
  have HO221 := n2_
  have HO228 := n3_
  have BK205 := n4_
  have BK206 := n5_
  have BK218 := n6_
  have BK222 := n7_
  have BK230 := n8_
  have GW230 := n9_
  have GE230 := n10_
  have NB205_230 := n11_
  have NB230_205 := n12_
  have NB206_230 := n13_
  have NB230_206 := n14_
  have NB218_230 := n15_
  have NB230_218 := n16_
  have NB222_230 := n17_
  have NB230_222 := n18_
  have HB := n19_
  clear n0_ n1_ n2_ n3_ n4_ n5_ n6_ n7_ n8_ n9_ n10_ n11_ n12_ n13_ n14_ n15_ n16_ n17_ n18_ n19_
  have hHeld : w45.cell? ⟨gb222, 0, none⟩ = some (.slice Ao35 t219.length co35) ∧ w45.cell? ⟨gb206, 0, none⟩ = some (.int .i64 a1_0) ∧ w45.cell? ⟨gb206, 1, none⟩ = some (.int .i64 a1_1) ∧ w45.cell? ⟨gb206, 2, none⟩ = some (.int .i64 a1_2) := hS_
  obtain ⟨Ao46, co46, eo46⟩ := Kd.R_slice HO228.out
  (first | subst eo46 | (injection eo46 with f1_ f2_ f3_; have f4_ := f1_.symm; have f5_ := f3_.symm; clear f1_ f2_ f3_; subst f4_; subst f5_))
  refine norm_ (a' := ?_) ?_ ?_
  rotate_left
  ·simp only [putAll, Act.put, List.setIfInBounds_toArray, List.set_cons_zero, List.set_cons_succ]
   rfl
  refine one_ (i := 8) (N := none) #[true, true, true, true, true, true, true, true, true, false] rfl rfl (one_of HT_.out (by kernel_rfl)) (by decide) (fun K hK => ?_)
  have hs47 : w45.cell? ⟨gb230, 0, none⟩ = some (.slice none 0 0) := (blk_cell BK230.out 0).trans rfl
  have hfs47 := blk_frozen BK230.out 0
  have hns47_0 := NB205_230.out
  have hns47_1 := NB206_230.out
  have hns47_2 := NB218_230.out
  have hns47_3 := NB222_230.out
  have hms47_0 := NB230_205.out
  have hms47_1 := NB230_206.out
  have hms47_2 := NB230_218.out
  have hms47_3 := NB230_222.out
  refine skip_ (w1 := ?_) (by rfl) rfl ?_ ?_
  rotate_left
  ·go_simp
   rfl
  refine hK.out _ _ ⟨((cell_far (p := ⟨gb230, _, none⟩) NB222_230.out _).trans (hHeld.1)), ((cell_far (p := ⟨gb230, _, none⟩) NB206_230.out _).trans (hHeld.2.1)), ((cell_far (p := ⟨gb230, _, none⟩) NB206_230.out _).trans (hHeld.2.2.1)), ((cell_far (p := ⟨gb230, _, none⟩) NB206_230.out _).trans (hHeld.2.2.2))⟩ (fun hHeld => ?_)
  clear hK K
  refine pure_ (i := 9) (N := some 10) (v := ?_) (a' := ?_) #[true, true, true, true, true, true, true, true, true, true] rfl rfl (any_of HT_.out (by kernel_rfl)) (fun _ _ _ h => h) (Or.inl ⟨by rfl, ?_⟩) ?_ ?_
  rotate_left
  ·intro w'
   go_simp
   with_reducible rfl
  rotate_left
  ·simp only [Act.put, List.setIfInBounds_toArray, List.set_cons_zero, List.set_cons_succ, i64_w, i32_w]
   rfl
  refine done_ (done_of HT_.out (by kernel_rfl)) ?_
  go_upto_region 8 with (fail)
  go_cut [46] (fun v46 wc => ∃ (kq : Nat) (x46_15 : Bool), v46 = .bool x46_15 ∧ Aside0 (laws_FnExactAddClue.j0 kq t217 t229 x46_15 l0_0 a1_0 a1_1 a1_2 t214 t219 t226 = some r) ∧ Aside0 (kq ≤ k) ∧ Aside0 (Kd.R k39 39 wc w.heap.size (fun k_ => some k_ ≠ ((.slice Ao35 t219.length co35) : Value).ownBlock ∧ some k_ ≠ ((.slice Ao46 t226.length co46) : Value).ownBlock) (.slice Ao29 t214.length co29) t214) ∧ Aside0 (Kd.R k39 39 wc w.heap.size (fun k_ => some k_ ≠ ((.slice Ao29 t214.length co29) : Value).ownBlock ∧ some k_ ≠ ((.slice Ao46 t226.length co46) : Value).ownBlock) (.slice Ao35 t219.length co35) t219) ∧ Aside0 (Kd.R k39 39 wc w.heap.size (fun k_ => some k_ ≠ ((.slice Ao29 t214.length co29) : Value).ownBlock ∧ some k_ ≠ ((.slice Ao35 t219.length co35) : Value).ownBlock) (.slice Ao46 t226.length co46) t226) ∧ Aside0 (wc.heap[gb205]? = some (.cells #[(.slice A0_0 l0_0.length c0_0)] 24 (0, 0))) ∧ Aside0 (wc.heap[gb206]? = some (.cells #[.int .i64 a1_0, .int .i64 a1_1, .int .i64 a1_2] 34 (0, 0))) ∧ Aside0 (wc.heap[gb218]? = some (.cells #[(.slice Ao29 t214.length co29)] 29 (0, 0))) ∧ Aside0 (wc.heap[gb222]? = some (.cells #[(.slice Ao35 t219.length co35)] 29 (0, 0))) ∧ Aside0 (wc.heap[gb230]? = some (.cells #[(.slice Ao46 t226.length co46)] 29 (0, 0))) ∧ Aside0 (Below w.heap.size w wc))
  case first =>
   have H := HC16.out
   clear HC16
   replace H := Option.bind_eq_some_iff.mp H
   obtain ⟨t231, A480, H⟩ := H
   replace H : (if t231 = true then (laws_FnExactAddClue.j0 k t217 t229 (t229 != t217) l0_0 a1_0 a1_1 a1_2 t214 t219 t226) else (laws_FnExactAddClue.j0 k t217 t229 true l0_0 a1_0 a1_1 a1_2 t214 t219 t226)) = some r := H
   have A48 := Aside0.mk A480
   clear A480
   by_cases c49 : t231 = true
   ·subst c49
    have H1 : (laws_FnExactAddClue.j0 k t217 t229 (t229 != t217) l0_0 a1_0 a1_1 a1_2 t214 t219 t226) = some r := by rw [if_pos rfl] at H; exact H
    clear H
    have H := H1
    clear H1
    have H' := Aside0.mk H
    clear H
    have hnb50 := NB230_205.out
    have hnc50 := NB205_230.out
    have hnb51 := NB230_206.out
    have hnc51 := NB206_230.out
    have hnb52 := NB230_218.out
    have hnc52 := NB218_230.out
    have hnb53 := NB230_222.out
    have hnc53 := NB222_230.out
    have hcz54_0 : w45.cell? ⟨gb230, 0, none⟩ = some (.slice none 0 0) := (blk_cell BK230.out 0).trans rfl
    have hfz54_0 := blk_frozen BK230.out 0
    have hnb55 := NB218_205.out
    have hnc55 := NB205_218.out
    have hnb56 := NB218_206.out
    have hnc56 := NB206_218.out
    have hnb57 := NB218_222.out
    have hnc57 := NB222_218.out
    have hcz58_0 : w45.cell? ⟨gb218, 0, none⟩ = some (.slice Ao29 t214.length co29) := (blk_cell BK218.out 0).trans rfl
    have hfz58_0 := blk_frozen BK218.out 0
    go_wp2_with (first | ((with_reducible refine gate_callee (f := 19) rfl ?_); refine goesL_ (some 40) rfl rfl Try.func19 (by kernel_rfl) rfl #[.agg #[.slice Ao46 t226.length co46], .agg #[.slice Ao29 t214.length co29]] rfl (by (try simp only [List.map_toArray, List.map_cons, List.map_nil]); first | done | rfl | (simp only [List.length_drop, List.length_take]; rfl)) ?_; (with_reducible refine (laws_eqPuzzle.calls k _ _ t226 _ _ t214 true _ ?side1 ?side2 ?side3 ?side4 A48.out).mono ?_); (case side1 => refine (Kd.R_reads' (e := 39) (base := w.heap.size) (ok := fun k_ => (some k_ ≠ (v209 : Value).ownBlock ∧ (some k_ ≠ (.slice Ao29 t214.length co29 : Value).ownBlock ∧ some k_ ≠ (.slice Ao35 t219.length co35 : Value).ownBlock))) (n := t226.length) (c := co46) ?_).2.2; exact (rk (Kd.R_mono (Kd.R_far (p := ⟨gb230, 0, none⟩) (Kd.R_types HO228.out BK230.out (by decide)) (fun _ hk => hk.2) (.slice Ao46 t226.length co46)) (fun _ h_ => h_.1)))); (case side2 => exact (Kd.R_reads' HO228.out).2.1); (case side3 => refine (Kd.R_reads' (e := 39) (base := w.heap.size) (ok := fun k_ => (some k_ ≠ (v209 : Value).ownBlock ∧ (some k_ ≠ (.slice Ao35 t219.length co35 : Value).ownBlock ∧ some k_ ≠ (.slice Ao46 t226.length co46 : Value).ownBlock))) (n := t214.length) (c := co29) ?_).2.2; exact (rk (Kd.R_mono (Kd.R_far (p := ⟨gb230, 0, none⟩) (Kd.R_types HO216.out BK230.out (by decide)) (fun _ hk => hk.2) (.slice Ao46 t226.length co46)) (fun _ h_ => h_.1)))); (case side4 => exact (Kd.R_reads' HO216.out).2.1); rintro e w59 ⟨rfl, hb⟩; refine ⟨_, rfl, ?_⟩; have n0_ := Aside0.mk (Kd.R_below (rk (Kd.R_mono (Kd.R_far (p := ⟨gb230, 0, none⟩) (Kd.R_types HO210.out BK230.out (by decide)) (fun _ hk => hk.2) (.slice Ao46 t226.length co46)) (fun _ h_ => h_.1))) hb); have n1_ := Aside0.mk (Kd.R_below (rk (Kd.R_mono (Kd.R_far (p := ⟨gb230, 0, none⟩) (Kd.R_types HO216.out BK230.out (by decide)) (fun _ hk => hk.2) (.slice Ao46 t226.length co46)) (fun _ h_ => h_.1))) hb); have n2_ := Aside0.mk (Kd.R_below (rk (Kd.R_mono (Kd.R_far (p := ⟨gb230, 0, none⟩) (Kd.R_types HO221.out BK230.out (by decide)) (fun _ hk => hk.2) (.slice Ao46 t226.length co46)) (fun _ h_ => h_.1))) hb); have n3_ := Aside0.mk (Kd.R_below (rk (Kd.R_mono (Kd.R_far (p := ⟨gb230, 0, none⟩) (Kd.R_types HO228.out BK230.out (by decide)) (fun _ hk => hk.2) (.slice Ao46 t226.length co46)) (fun _ h_ => h_.1))) hb); have n4_ := Aside0.mk (blk_below (g := gb205) (o := .cells #[.slice A0_0 l0_0.length c0_0] 24 (0, 0)) (by (with_reducible repeat (first | refine blk_drewN ?_ _ | refine blk_drew ?_ | refine blk_alloc ?_ _)); refine blk_far ?_ NB205_230.out _; (with_reducible repeat (first | refine blk_drewN ?_ _ | refine blk_drew ?_ | refine blk_alloc ?_ _)); exact BK205.out) hb); have n5_ := Aside0.mk (blk_below (g := gb206) (o := .cells #[.int .i64 a1_0, .int .i64 a1_1, .int .i64 a1_2] 34 (0, 0)) (by (with_reducible repeat (first | refine blk_drewN ?_ _ | refine blk_drew ?_ | refine blk_alloc ?_ _)); refine blk_far ?_ NB206_230.out _; (with_reducible repeat (first | refine blk_drewN ?_ _ | refine blk_drew ?_ | refine blk_alloc ?_ _)); exact BK206.out) hb); have n6_ := Aside0.mk (blk_below (g := gb218) (o := .cells #[.slice Ao29 t214.length co29] 29 (0, 0)) (by (with_reducible repeat (first | refine blk_drewN ?_ _ | refine blk_drew ?_ | refine blk_alloc ?_ _)); refine blk_far ?_ NB218_230.out _; (with_reducible repeat (first | refine blk_drewN ?_ _ | refine blk_drew ?_ | refine blk_alloc ?_ _)); exact BK218.out) hb); have n7_ := Aside0.mk (blk_below (g := gb222) (o := .cells #[.slice Ao35 t219.length co35] 29 (0, 0)) (by (with_reducible repeat (first | refine blk_drewN ?_ _ | refine blk_drew ?_ | refine blk_alloc ?_ _)); refine blk_far ?_ NB222_230.out _; (with_reducible repeat (first | refine blk_drewN ?_ _ | refine blk_drew ?_ | refine blk_alloc ?_ _)); exact BK222.out) hb); have n8_ := Aside0.mk (blk_below (g := gb230) (o := .cells #[.slice Ao46 t226.length co46] 29 (0, 0)) (by (with_reducible repeat (first | refine blk_drewN ?_ _ | refine blk_drew ?_ | refine blk_alloc ?_ _)); refine blk_put (cs := #[.slice none 0 0]) ?_ 0 _ rfl; (with_reducible repeat (first | refine blk_drewN ?_ _ | refine blk_drew ?_ | refine blk_alloc ?_ _)); exact BK230.out) hb); have n9_ := Aside0.mk (below_step (hB HB.out) hb); clear HO210; clear HO216; clear HO221; clear HO228; clear BK205; clear BK206; clear BK218; clear BK222; clear BK230; clear HB; have HO210 := n0_; have HO216 := n1_; have HO221 := n2_; have HO228 := n3_; have BK205 := n4_; have BK206 := n5_; have BK218 := n6_; have BK222 := n7_; have BK230 := n8_; have HB := n9_; clear n0_ n1_ n2_ n3_ n4_ n5_ n6_ n7_ n8_ n9_; (try clear hb); (try clear hb2); (try clear hk); (try clear hi)))
    go_meet
    case rel => exact ⟨_, ((t229 != t217)), (by first | rfl | (simp; done) | (simp [*]; done)), H', ⟨by first | omega | exact Nat.le_refl _⟩, ⟨rk (Kd.R_mono HO216.out (fun _ hk => ⟨hk.2.1, hk.2.2⟩))⟩, ⟨rk (Kd.R_mono HO221.out (fun _ hk => ⟨hk.2.1, hk.2.2⟩))⟩, ⟨rk (Kd.R_mono HO228.out (fun _ hk => ⟨hk.2.1, hk.2.2⟩))⟩, ⟨bk BK205.out⟩, ⟨bk BK206.out⟩, ⟨bk BK218.out⟩, ⟨bk BK222.out⟩, ⟨bk BK230.out⟩, ⟨hB HB.out⟩⟩
   ·replace c49 := Bool.eq_false_iff.mpr c49
    subst c49
    have H1 : (laws_FnExactAddClue.j0 k t217 t229 true l0_0 a1_0 a1_1 a1_2 t214 t219 t226) = some r := by rw [if_neg (show ¬ (false = true) by decide)] at H; exact H
    clear H
    have H := H1
    clear H1
    have H' := Aside0.mk H
    clear H
    have hnb60 := NB230_205.out
    have hnc60 := NB205_230.out
    have hnb61 := NB230_206.out
    have hnc61 := NB206_230.out
    have hnb62 := NB230_218.out
    have hnc62 := NB218_230.out
    have hnb63 := NB230_222.out
    have hnc63 := NB222_230.out
    have hcz64_0 : w45.cell? ⟨gb230, 0, none⟩ = some (.slice none 0 0) := (blk_cell BK230.out 0).trans rfl
    have hfz64_0 := blk_frozen BK230.out 0
    have hnb65 := NB218_205.out
    have hnc65 := NB205_218.out
    have hnb66 := NB218_206.out
    have hnc66 := NB206_218.out
    have hnb67 := NB218_222.out
    have hnc67 := NB222_218.out
    have hcz68_0 : w45.cell? ⟨gb218, 0, none⟩ = some (.slice Ao29 t214.length co29) := (blk_cell BK218.out 0).trans rfl
    have hfz68_0 := blk_frozen BK218.out 0
    go_wp2_with (first | ((with_reducible refine gate_callee (f := 19) rfl ?_); refine goesL_ (some 40) rfl rfl Try.func19 (by kernel_rfl) rfl #[.agg #[.slice Ao46 t226.length co46], .agg #[.slice Ao29 t214.length co29]] rfl (by (try simp only [List.map_toArray, List.map_cons, List.map_nil]); first | done | rfl | (simp only [List.length_drop, List.length_take]; rfl)) ?_; (with_reducible refine (laws_eqPuzzle.calls k _ _ t226 _ _ t214 false _ ?side1 ?side2 ?side3 ?side4 A48.out).mono ?_); (case side1 => refine (Kd.R_reads' (e := 39) (base := w.heap.size) (ok := fun k_ => (some k_ ≠ (v209 : Value).ownBlock ∧ (some k_ ≠ (.slice Ao29 t214.length co29 : Value).ownBlock ∧ some k_ ≠ (.slice Ao35 t219.length co35 : Value).ownBlock))) (n := t226.length) (c := co46) ?_).2.2; exact (rk (Kd.R_mono (Kd.R_far (p := ⟨gb230, 0, none⟩) (Kd.R_types HO228.out BK230.out (by decide)) (fun _ hk => hk.2) (.slice Ao46 t226.length co46)) (fun _ h_ => h_.1)))); (case side2 => exact (Kd.R_reads' HO228.out).2.1); (case side3 => refine (Kd.R_reads' (e := 39) (base := w.heap.size) (ok := fun k_ => (some k_ ≠ (v209 : Value).ownBlock ∧ (some k_ ≠ (.slice Ao35 t219.length co35 : Value).ownBlock ∧ some k_ ≠ (.slice Ao46 t226.length co46 : Value).ownBlock))) (n := t214.length) (c := co29) ?_).2.2; exact (rk (Kd.R_mono (Kd.R_far (p := ⟨gb230, 0, none⟩) (Kd.R_types HO216.out BK230.out (by decide)) (fun _ hk => hk.2) (.slice Ao46 t226.length co46)) (fun _ h_ => h_.1)))); (case side4 => exact (Kd.R_reads' HO216.out).2.1); rintro e w69 ⟨rfl, hb⟩; refine ⟨_, rfl, ?_⟩; have n0_ := Aside0.mk (Kd.R_below (rk (Kd.R_mono (Kd.R_far (p := ⟨gb230, 0, none⟩) (Kd.R_types HO210.out BK230.out (by decide)) (fun _ hk => hk.2) (.slice Ao46 t226.length co46)) (fun _ h_ => h_.1))) hb); have n1_ := Aside0.mk (Kd.R_below (rk (Kd.R_mono (Kd.R_far (p := ⟨gb230, 0, none⟩) (Kd.R_types HO216.out BK230.out (by decide)) (fun _ hk => hk.2) (.slice Ao46 t226.length co46)) (fun _ h_ => h_.1))) hb); have n2_ := Aside0.mk (Kd.R_below (rk (Kd.R_mono (Kd.R_far (p := ⟨gb230, 0, none⟩) (Kd.R_types HO221.out BK230.out (by decide)) (fun _ hk => hk.2) (.slice Ao46 t226.length co46)) (fun _ h_ => h_.1))) hb); have n3_ := Aside0.mk (Kd.R_below (rk (Kd.R_mono (Kd.R_far (p := ⟨gb230, 0, none⟩) (Kd.R_types HO228.out BK230.out (by decide)) (fun _ hk => hk.2) (.slice Ao46 t226.length co46)) (fun _ h_ => h_.1))) hb); have n4_ := Aside0.mk (blk_below (g := gb205) (o := .cells #[.slice A0_0 l0_0.length c0_0] 24 (0, 0)) (by (with_reducible repeat (first | refine blk_drewN ?_ _ | refine blk_drew ?_ | refine blk_alloc ?_ _)); refine blk_far ?_ NB205_230.out _; (with_reducible repeat (first | refine blk_drewN ?_ _ | refine blk_drew ?_ | refine blk_alloc ?_ _)); exact BK205.out) hb); have n5_ := Aside0.mk (blk_below (g := gb206) (o := .cells #[.int .i64 a1_0, .int .i64 a1_1, .int .i64 a1_2] 34 (0, 0)) (by (with_reducible repeat (first | refine blk_drewN ?_ _ | refine blk_drew ?_ | refine blk_alloc ?_ _)); refine blk_far ?_ NB206_230.out _; (with_reducible repeat (first | refine blk_drewN ?_ _ | refine blk_drew ?_ | refine blk_alloc ?_ _)); exact BK206.out) hb); have n6_ := Aside0.mk (blk_below (g := gb218) (o := .cells #[.slice Ao29 t214.length co29] 29 (0, 0)) (by (with_reducible repeat (first | refine blk_drewN ?_ _ | refine blk_drew ?_ | refine blk_alloc ?_ _)); refine blk_far ?_ NB218_230.out _; (with_reducible repeat (first | refine blk_drewN ?_ _ | refine blk_drew ?_ | refine blk_alloc ?_ _)); exact BK218.out) hb); have n7_ := Aside0.mk (blk_below (g := gb222) (o := .cells #[.slice Ao35 t219.length co35] 29 (0, 0)) (by (with_reducible repeat (first | refine blk_drewN ?_ _ | refine blk_drew ?_ | refine blk_alloc ?_ _)); refine blk_far ?_ NB222_230.out _; (with_reducible repeat (first | refine blk_drewN ?_ _ | refine blk_drew ?_ | refine blk_alloc ?_ _)); exact BK222.out) hb); have n8_ := Aside0.mk (blk_below (g := gb230) (o := .cells #[.slice Ao46 t226.length co46] 29 (0, 0)) (by (with_reducible repeat (first | refine blk_drewN ?_ _ | refine blk_drew ?_ | refine blk_alloc ?_ _)); refine blk_put (cs := #[.slice none 0 0]) ?_ 0 _ rfl; (with_reducible repeat (first | refine blk_drewN ?_ _ | refine blk_drew ?_ | refine blk_alloc ?_ _)); exact BK230.out) hb); have n9_ := Aside0.mk (below_step (hB HB.out) hb); clear HO210; clear HO216; clear HO221; clear HO228; clear BK205; clear BK206; clear BK218; clear BK222; clear BK230; clear HB; have HO210 := n0_; have HO216 := n1_; have HO221 := n2_; have HO228 := n3_; have BK205 := n4_; have BK206 := n5_; have BK218 := n6_; have BK222 := n7_; have BK230 := n8_; have HB := n9_; clear n0_ n1_ n2_ n3_ n4_ n5_ n6_ n7_ n8_ n9_; (try clear hb); (try clear hb2); (try clear hk); (try clear hi)))
    go_meet
    case rel => exact ⟨_, (true), (by first | rfl | (simp; done) | (simp [*]; done)), H', ⟨by first | omega | exact Nat.le_refl _⟩, ⟨rk (Kd.R_mono HO216.out (fun _ hk => ⟨hk.2.1, hk.2.2⟩))⟩, ⟨rk (Kd.R_mono HO221.out (fun _ hk => ⟨hk.2.1, hk.2.2⟩))⟩, ⟨rk (Kd.R_mono HO228.out (fun _ hk => ⟨hk.2.1, hk.2.2⟩))⟩, ⟨bk BK205.out⟩, ⟨bk BK206.out⟩, ⟨bk BK218.out⟩, ⟨bk BK222.out⟩, ⟨bk BK230.out⟩, ⟨hB HB.out⟩⟩
  case rest =>
   clear HC16
   try clear c1
   try clear c2
   try clear p2
   try clear c4
   try clear c5
   try clear c6
   try clear c19
   try clear c21
   try clear c25
   try clear c49
   try clear c50
   try clear c51
   try clear c52
   try clear c53
   try clear c55
   try clear c56
   try clear c57
   try clear c60
   try clear c61
   try clear c62
   try clear c63
   try clear c65
   try clear c66
   try clear c67
   try clear hcz54_0
   try clear hcz58_0
   try clear hcz64_0
   try clear hcz68_0
   try clear hfz54_0
   try clear hfz58_0
   try clear hfz64_0
   try clear hfz68_0
   obtain ⟨kq, x46_15, rfl, HA, HJ15, HO_219000, HO_223000, HO_231000, BK205, BK206, BK218, BK222, BK230, HB⟩ := hcut
   cases kq with
   | zero => exact absurd HA.out (by simp [laws_FnExactAddClue.j0])
   | succ kj15 =>
    have H := HA.out
    clear HA
    simp only [laws_FnExactAddClue.j0] at H
    by_cases c70 : x46_15 = true
    ·subst c70
     have H1 : (some false) = some r := by rw [if_pos rfl] at H; exact H
     clear H
     have H := H1
     clear H1
     obtain rfl := Option.some.inj H
     go_wp2
     go_ret
     exact ⟨by first | rfl | (simp [errW_none, errW_some] <;> rfl) | (simp [*, errW_none, errW_some] <;> rfl), hB HB.out⟩
    ·replace c70 := Bool.eq_false_iff.mpr c70
     subst c70
     have H1 : ((laws_toPuzzle.f kj15 l0_0).bind fun t232 => ((laws_eqPuzzle.f kj15 t219 t232).bind fun t235 => (if t235 = true then ((laws_markPuzzle.f kj15 t219 1).bind fun bt236 => (if bt236.1 < 0 then (laws_FnExactAddClue.j1 kj15 t217 true l0_0 a1_0 a1_1 a1_2 t214 t226) else ((laws_eqPuzzle.f kj15 t226 t214).bind fun t238 => (if t238 = true then (laws_FnExactAddClue.j1 kj15 t217 (t229 != t217) l0_0 a1_0 a1_1 a1_2 t214 t226) else (laws_FnExactAddClue.j1 kj15 t217 true l0_0 a1_0 a1_1 a1_2 t214 t226))))) else (some false)))) = some r := by rw [if_neg (show ¬ (false = true) by decide)] at H; exact H
     clear H
     have H := H1
     clear H1
     replace H := Option.bind_eq_some_iff.mp H
     obtain ⟨t232, A710, H⟩ := H
     replace H : ((laws_eqPuzzle.f kj15 t219 t232).bind fun t235 => (if t235 = true then ((laws_markPuzzle.f kj15 t219 1).bind fun bt236 => (if bt236.1 < 0 then (laws_FnExactAddClue.j1 kj15 t217 true l0_0 a1_0 a1_1 a1_2 t214 t226) else ((laws_eqPuzzle.f kj15 t226 t214).bind fun t238 => (if t238 = true then (laws_FnExactAddClue.j1 kj15 t217 (t229 != t217) l0_0 a1_0 a1_1 a1_2 t214 t226) else (laws_FnExactAddClue.j1 kj15 t217 true l0_0 a1_0 a1_1 a1_2 t214 t226))))) else (some false))) = some r := H
     have A71 := Aside0.mk A710
     clear A710
     replace H := Option.bind_eq_some_iff.mp H
     obtain ⟨t235, A720, H⟩ := H
     replace H : (if t235 = true then ((laws_markPuzzle.f kj15 t219 1).bind fun bt236 => (if bt236.1 < 0 then (laws_FnExactAddClue.j1 kj15 t217 true l0_0 a1_0 a1_1 a1_2 t214 t226) else ((laws_eqPuzzle.f kj15 t226 t214).bind fun t238 => (if t238 = true then (laws_FnExactAddClue.j1 kj15 t217 (t229 != t217) l0_0 a1_0 a1_1 a1_2 t214 t226) else (laws_FnExactAddClue.j1 kj15 t217 true l0_0 a1_0 a1_1 a1_2 t214 t226))))) else (some false)) = some r := H
     have A72 := Aside0.mk A720
     clear A720
     by_cases c73 : t235 = true
     ·subst c73
      have H1 : ((laws_markPuzzle.f kj15 t219 1).bind fun bt236 => (if bt236.1 < 0 then (laws_FnExactAddClue.j1 kj15 t217 true l0_0 a1_0 a1_1 a1_2 t214 t226) else ((laws_eqPuzzle.f kj15 t226 t214).bind fun t238 => (if t238 = true then (laws_FnExactAddClue.j1 kj15 t217 (t229 != t217) l0_0 a1_0 a1_1 a1_2 t214 t226) else (laws_FnExactAddClue.j1 kj15 t217 true l0_0 a1_0 a1_1 a1_2 t214 t226))))) = some r := by rw [if_pos rfl] at H; exact H
      clear H
      have H := H1
      clear H1
      replace H := Option.bind_eq_some_iff.mp H
      obtain ⟨⟨t236, t237⟩, A740, H⟩ := H
      replace H : (if t236 < 0 then (laws_FnExactAddClue.j1 kj15 t217 true l0_0 a1_0 a1_1 a1_2 t214 t226) else ((laws_eqPuzzle.f kj15 t226 t214).bind fun t238 => (if t238 = true then (laws_FnExactAddClue.j1 kj15 t217 (t229 != t217) l0_0 a1_0 a1_1 a1_2 t214 t226) else (laws_FnExactAddClue.j1 kj15 t217 true l0_0 a1_0 a1_1 a1_2 t214 t226)))) = some r := H
      have A74 := Aside0.mk A740
      clear A740
      have HC75 := Aside0.mk H
      clear H
      try go_wp2
      have n0_ := Aside0.mk (Kd.R_drew HO_219000.out)
      have n1_ := Aside0.mk (Kd.R_drew HO_223000.out)
      have n2_ := Aside0.mk (Kd.R_drew HO_231000.out)
      have n3_ := Aside0.mk (blk_drew BK205.out)
      have n4_ := Aside0.mk (blk_drew BK206.out)
      have n5_ := Aside0.mk (blk_drew BK218.out)
      have n6_ := Aside0.mk (blk_drew BK222.out)
      have n7_ := Aside0.mk (blk_drew BK230.out)
      have n8_ := Aside0.mk (below_drew1 HB.out)
      clear HO_219000
      clear HO_223000
      clear HO_231000
      clear BK205
      clear BK206
      clear BK218
      clear BK222
      clear BK230
      clear HB
      have HO_219000 := n0_
      have HO_223000 := n1_
      have HO_231000 := n2_
      have BK205 := n3_
      have BK206 := n4_
      have BK218 := n5_
      have BK222 := n6_
      have BK230 := n7_
      have HB := n8_
      clear n0_ n1_ n2_ n3_ n4_ n5_ n6_ n7_ n8_
      refine start_ (n := 5) (S := fun w' => w'.cell? ⟨gb222, 0, none⟩ = some (.slice Ao35 t219.length co35) ∧ w'.cell? ⟨gb205, 0, none⟩ = some (.slice A0_0 l0_0.length c0_0)) (ds := []) #[false, false, false, false, false] (by kernel_rfl) rfl rfl ⟨(blk_cell BK222.out 0).trans rfl, (blk_cell BK205.out 0).trans rfl⟩ (fun hHeld => ?_)
      generalize wc.drew = w76 at HO_219000 HO_223000 HO_231000 BK205 BK206 BK218 BK222 BK230 HB hHeld ⊢
      refine take_ (i := 0) (N := some 47) (v := ?_) (a' := ?_) #[true, false, false, false, false] rfl rfl (by kernel_rfl) (fun _ _ _ h => h) (Or.inl ⟨by rfl, ?_⟩) hHeld ?_ ?_
      rotate_left
      ·rintro w' ⟨s0, s1⟩
       go_simp
       with_reducible rfl
      rotate_left
      ·simp only [Act.put, List.setIfInBounds_toArray, List.set_cons_zero, List.set_cons_succ, i64_w, i32_w]
       rfl
      refine take_ (i := 1) (N := some 48) (v := ?_) (a' := ?_) #[true, true, false, false, false] rfl rfl (by kernel_rfl) (fun _ _ _ h => h) (Or.inl ⟨by rfl, ?_⟩) hHeld ?_ ?_
      rotate_left
      ·rintro w' ⟨s0, s1⟩
       go_simp
       with_reducible rfl
      rotate_left
      ·simp only [Act.put, List.setIfInBounds_toArray, List.set_cons_zero, List.set_cons_succ, i64_w, i32_w]
       rfl
      refine one_ (i := 2) (N := some 49) #[true, true, true, false, false] rfl rfl (by kernel_rfl) (by decide) (fun K hK => ?_)
      refine goes_ Try.func17 (by kernel_rfl) rfl #[.agg #[.slice A0_0 l0_0.length c0_0]] (by rfl) rfl rfl (by (try simp only [List.map_toArray, List.map_cons, List.map_nil]); first | done | rfl | (simp only [List.length_drop, List.length_take]; rfl)) ?_
      with_reducible refine (laws_toPuzzle.calls kj15 _ _ l0_0 t232 _ ?side1 ?side2 A71.out).mono ?_
      (case side1 => repeat (first | exact (Kd.C_below HR0_0.out HB.out) | (with_reducible refine Kd.C_alloc ?_ _) | (with_reducible refine Kd.C_drewN ?_ _) | (with_reducible refine Kd.C_drew ?_)))
      (case side2 => exact HC0_0.out)
      rintro e w77 ⟨v233, rfl, ho0, hb⟩
      refine ⟨_, rfl, ?_⟩
      have n0_ := Aside0.mk (Kd.R_elder' (rk HO_219000.out) (Kd.R_base ho0) hb)
      have n1_ := Aside0.mk (Kd.R_elder' (rk HO_223000.out) (Kd.R_base ho0) hb)
      have n2_ := Aside0.mk (Kd.R_elder' (rk HO_231000.out) (Kd.R_base ho0) hb)
      have n3_ := Aside0.mk (Kd.R_lower (Kd.R_new' (Kd.R_new' (Kd.R_new' ho0 (Kd.R_lt (rk HO_219000.out))) (Kd.R_lt (rk HO_223000.out))) (Kd.R_lt (rk HO_231000.out))) (below_size (hB HB.out)))
      have n4_ := Aside0.mk (blk_below (g := gb205) (o := .cells #[.slice A0_0 l0_0.length c0_0] 24 (0, 0)) (bk BK205.out) hb)
      have n5_ := Aside0.mk (blk_below (g := gb206) (o := .cells #[.int .i64 a1_0, .int .i64 a1_1, .int .i64 a1_2] 34 (0, 0)) (bk BK206.out) hb)
      have n6_ := Aside0.mk (blk_below (g := gb218) (o := .cells #[.slice Ao29 t214.length co29] 29 (0, 0)) (bk BK218.out) hb)
      have n7_ := Aside0.mk (blk_below (g := gb222) (o := .cells #[.slice Ao35 t219.length co35] 29 (0, 0)) (bk BK222.out) hb)
      have n8_ := Aside0.mk (blk_below (g := gb230) (o := .cells #[.slice Ao46 t226.length co46] 29 (0, 0)) (bk BK230.out) hb)
      have n9_ := Aside0.mk (below_step (hB HB.out) hb)
      clear HO_219000
      clear HO_223000
      clear HO_231000
      clear BK205
      clear BK206
      clear BK218
      clear BK222
      clear BK230
      clear HB
      have HO_219000 := n0_
      have HO_223000 := n1_
      have HO_231000 := n2_
      have HO234 := n3_
      have BK205 := n4_
      have BK206 := n5_
      have BK218 := n6_
      have BK222 := n7_
      have BK230 := n8_
      have HB := n9_
      clear n0_ n1_ n2_ n3_ n4_ n5_ n6_ n7_ n8_ n9_
      (try clear hb)
      (try clear hb2)
      (try clear hk)
      (try clear hi)
      (try clear ho0)
      obtain ⟨Ao78, co78, eo78⟩ := Kd.R_slice HO234.out
      (first | subst eo78 | (injection eo78 with f1_ f2_ f3_; have f4_ := f1_.symm; have f5_ := f3_.symm; clear f1_ f2_ f3_; subst f4_; subst f5_))
      refine hK.out _ _ ⟨(blk_cell BK222.out 0).trans rfl, (blk_cell BK205.out 0).trans rfl⟩ (fun hHeld => ?_)
      clear hK K
      refine norm_ (a' := ?_) ?_ ?_
      rotate_left
      ·show Act.put _ (some 49) _ = _
       simp only [Act.put, List.setIfInBounds_toArray, List.set_cons_zero, List.set_cons_succ, i64_w, i32_w]
       rfl
      refine one_ (i := 3) (N := some 50) #[true, true, true, true, false] rfl rfl (by kernel_rfl) (by decide) (fun K hK => ?_)
      refine goes_ Try.func19 (by kernel_rfl) rfl #[.agg #[.slice Ao35 t219.length co35], .agg #[.slice Ao78 t232.length co78]] (by rfl) rfl rfl (by (try simp only [List.map_toArray, List.map_cons, List.map_nil]); first | done | rfl | (simp only [List.length_drop, List.length_take]; rfl)) ?_
      with_reducible refine (laws_eqPuzzle.calls kj15 _ _ t219 _ _ t232 true _ ?side1 ?side2 ?side3 ?side4 A72.out).mono ?_
      (case side1 => repeat (first | exact (Kd.R_reads' HO_223000.out).2.2 | (with_reducible refine Kd.C_alloc ?_ _) | (with_reducible refine Kd.C_drewN ?_ _) | (with_reducible refine Kd.C_drew ?_)))
      (case side2 => exact (Kd.R_reads' HO_223000.out).2.1)
      (case side3 => repeat (first | exact (Kd.R_reads' HO234.out).2.2 | (with_reducible refine Kd.C_alloc ?_ _) | (with_reducible refine Kd.C_drewN ?_ _) | (with_reducible refine Kd.C_drew ?_)))
      (case side4 => exact (Kd.R_reads' HO234.out).2.1)
      rintro e w79 ⟨rfl, hb⟩
      refine ⟨_, rfl, ?_⟩
      have n0_ := Aside0.mk (Kd.R_below (rk HO_219000.out) hb)
      have n1_ := Aside0.mk (Kd.R_below (rk HO_223000.out) hb)
      have n2_ := Aside0.mk (Kd.R_below (rk HO_231000.out) hb)
      have n3_ := Aside0.mk (Kd.R_below (rk HO234.out) hb)
      have n4_ := Aside0.mk (blk_below (g := gb205) (o := .cells #[.slice A0_0 l0_0.length c0_0] 24 (0, 0)) (bk BK205.out) hb)
      have n5_ := Aside0.mk (blk_below (g := gb206) (o := .cells #[.int .i64 a1_0, .int .i64 a1_1, .int .i64 a1_2] 34 (0, 0)) (bk BK206.out) hb)
      have n6_ := Aside0.mk (blk_below (g := gb218) (o := .cells #[.slice Ao29 t214.length co29] 29 (0, 0)) (bk BK218.out) hb)
      have n7_ := Aside0.mk (blk_below (g := gb222) (o := .cells #[.slice Ao35 t219.length co35] 29 (0, 0)) (bk BK222.out) hb)
      have n8_ := Aside0.mk (blk_below (g := gb230) (o := .cells #[.slice Ao46 t226.length co46] 29 (0, 0)) (bk BK230.out) hb)
      have n9_ := Aside0.mk (below_step (hB HB.out) hb)
      clear HO_219000
      clear HO_223000
      clear HO_231000
      clear HO234
      clear BK205
      clear BK206
      clear BK218
      clear BK222
      clear BK230
      clear HB
      have HO_219000 := n0_
      have HO_223000 := n1_
      have HO_231000 := n2_
      have HO234 := n3_
      have BK205 := n4_
      have BK206 := n5_
      have BK218 := n6_
      have BK222 := n7_
      have BK230 := n8_
      have HB := n9_
      clear n0_ n1_ n2_ n3_ n4_ n5_ n6_ n7_ n8_ n9_
      (try clear hb)
      (try clear hb2)
      (try clear hk)
      (try clear hi)
      refine hK.out _ _ ⟨(blk_cell BK222.out 0).trans rfl, (blk_cell BK205.out 0).trans rfl⟩ (fun hHeld => ?_)
      clear hK K
      refine norm_ (a' := ?_) ?_ ?_
      rotate_left
      ·show Act.put _ (some 50) _ = _
       simp only [Act.put, List.setIfInBounds_toArray, List.set_cons_zero, List.set_cons_succ, i64_w, i32_w]
       rfl
      refine pure_ (i := 4) (N := some 51) (v := ?_) (a' := ?_) #[true, true, true, true, true] rfl rfl (by kernel_rfl) (fun _ _ _ h => h) (Or.inl ⟨by rfl, ?_⟩) ?_ ?_
      rotate_left
      ·intro w'
       go_simp
       with_reducible rfl
      rotate_left
      ·simp only [Act.put, List.setIfInBounds_toArray, List.set_cons_zero, List.set_cons_succ, i64_w, i32_w]
       rfl
      refine done_ (by kernel_rfl) ?_
      have hnb80 := NB222_205.out
      have hnc80 := NB205_222.out
      have hnb81 := NB222_206.out
      have hnc81 := NB206_222.out
      have hnb82 := NB222_218.out
      have hnc82 := NB218_222.out
      have hnb83 := NB222_230.out
      have hnc83 := NB230_222.out
      have hcz84_0 : w79.cell? ⟨gb222, 0, none⟩ = some (.slice Ao35 t219.length co35) := (blk_cell BK222.out 0).trans rfl
      have hfz84_0 := blk_frozen BK222.out 0
      go_upto_region 14 with (first | ((with_reducible refine gate_callee (f := 26) rfl ?_); refine goesL_ (some 54) rfl rfl Try.func26 (by kernel_rfl) rfl #[.agg #[.slice Ao35 t219.length co35], .int .i64 1] rfl (by (try simp only [List.map_toArray, List.map_cons, List.map_nil]); first | done | rfl | (simp only [List.length_drop, List.length_take]; rfl)) ?_; (with_reducible refine (laws_markPuzzle.calls kj15 (fun k_ => some k_ = (.slice Ao35 t219.length co35 : Value).ownBlock) (.slice Ao35 t219.length co35) t219 1 t236 t237 w _ ?side1 ?side2 A74.out).mono ?_); (case side1 => repeat (first | (with_reducible first | exact HB.out | apply below_alloc | apply pw_below_drewN | apply below_drew1 | refine below_set ?_ GE205.out | refine below_set ?_ GE206.out | refine below_set ?_ GE218.out | refine below_set ?_ GE222.out | refine below_set ?_ GE230.out) | exact HB.out)); (case side2 => exact Kd.R_tight rfl HO_223000.out); rintro e w85 ⟨rfl, hy0, hb, hkp⟩; refine ⟨_, rfl, ?_⟩; have n0_ := Aside0.mk (Kd.R_mono (ok' := fun k_ => some k_ ≠ (.slice Ao35 t219.length co35 : Value).ownBlock ∧ some k_ ≠ (.slice Ao46 t226.length co46 : Value).ownBlock ∧ some k_ ≠ (.slice Ao78 t232.length co78 : Value).ownBlock) (Kd.R_keptB (HO_219000.out) hkp (fun k_ hk_ hs_ => (hk_.1.1) hs_)) (fun k_ hk_ => ⟨hk_.1.1.1, hk_.1.1.2, hk_.1.2⟩)); have n1_ := Aside0.mk (Kd.R_reok rfl hy0 (fun k_ e_ => HO_223000.out.1 k_ e_)); have n2_ := Aside0.mk (Kd.R_mono (ok' := fun k_ => some k_ ≠ (.slice Ao29 t214.length co29 : Value).ownBlock ∧ some k_ ≠ (.slice Ao35 t219.length co35 : Value).ownBlock ∧ some k_ ≠ (.slice Ao78 t232.length co78 : Value).ownBlock) (Kd.R_keptB (HO_231000.out) hkp (fun k_ hk_ hs_ => (hk_.1.2) hs_)) (fun k_ hk_ => ⟨hk_.1.1.1, hk_.1.1.2, hk_.1.2⟩)); have n3_ := Aside0.mk (blk_kept (bk BK205.out) hkp (fun hs_ => (fun e_ => (Kd.R_ne HO_223000.out BK205.out (by decide)) e_) hs_)); have n4_ := Aside0.mk (blk_kept (bk BK206.out) hkp (fun hs_ => (fun e_ => (Kd.R_ne HO_223000.out BK206.out (by decide)) e_) hs_)); have n5_ := Aside0.mk (blk_kept (bk BK218.out) hkp (fun hs_ => (fun e_ => (Kd.R_ne HO_223000.out BK218.out (by decide)) e_) hs_)); have n6_ := Aside0.mk (blk_kept (bk BK222.out) hkp (fun hs_ => (fun e_ => (Kd.R_ne HO_223000.out BK222.out (by decide)) e_) hs_)); have n7_ := Aside0.mk (blk_kept (bk BK230.out) hkp (fun hs_ => (fun e_ => (Kd.R_ne HO_223000.out BK230.out (by decide)) e_) hs_)); have n8_ := Aside0.mk (Kd.R_mono (ok' := fun k_ => some k_ ≠ (.slice Ao29 t214.length co29 : Value).ownBlock ∧ some k_ ≠ (.slice Ao35 t219.length co35 : Value).ownBlock ∧ some k_ ≠ (.slice Ao46 t226.length co46 : Value).ownBlock) (Kd.R_keptB (HO234.out) hkp (fun k_ hk_ hs_ => (hk_.1.2) hs_)) (fun k_ hk_ => ⟨hk_.1.1.1.2, hk_.1.1.2, hk_.1.2⟩)); have n9_ := Aside0.mk (hb); clear HO_219000; clear HO_223000; clear HO_231000; clear BK205; clear BK206; clear BK218; clear BK222; clear BK230; clear HO234; clear HB; have HO_219000 := n0_; have HO_223000 := n1_; have HO_231000 := n2_; have BK205 := n3_; have BK206 := n4_; have BK218 := n5_; have BK222 := n6_; have BK230 := n7_; have HO234 := n8_; have HB := n9_; clear n0_ n1_ n2_ n3_ n4_ n5_ n6_ n7_ n8_ n9_; (try clear hb); (try clear hkp); (try clear hy0)))
      (try simp only [Act.put, List.setIfInBounds_toArray, List.set_cons_zero, List.set_cons_succ])
      go_cut [67] (fun v67 wc => ∃ (kq : Nat) (x67_74 : Bool), v67 = .bool x67_74 ∧ Aside0 (laws_FnExactAddClue.j1 kq t217 x67_74 l0_0 a1_0 a1_1 a1_2 t214 t226 = some r) ∧ Aside0 (kq ≤ kj15) ∧ Aside0 (Kd.R k39 39 wc w.heap.size (fun k_ => some k_ ≠ ((.slice Ao35 t219.length co35) : Value).ownBlock ∧ some k_ ≠ ((.slice Ao46 t226.length co46) : Value).ownBlock) (.slice Ao29 t214.length co29) t214) ∧ Aside0 (Kd.R k39 39 wc w.heap.size (fun k_ => some k_ ≠ ((.slice Ao29 t214.length co29) : Value).ownBlock ∧ some k_ ≠ ((.slice Ao46 t226.length co46) : Value).ownBlock) (.slice Ao35 t219.length co35) t237) ∧ Aside0 (Kd.R k39 39 wc w.heap.size (fun k_ => some k_ ≠ ((.slice Ao29 t214.length co29) : Value).ownBlock ∧ some k_ ≠ ((.slice Ao35 t219.length co35) : Value).ownBlock) (.slice Ao46 t226.length co46) t226) ∧ Aside0 (wc.heap[gb205]? = some (.cells #[(.slice A0_0 l0_0.length c0_0)] 24 (0, 0))) ∧ Aside0 (wc.heap[gb206]? = some (.cells #[.int .i64 a1_0, .int .i64 a1_1, .int .i64 a1_2] 34 (0, 0))) ∧ Aside0 (wc.heap[gb218]? = some (.cells #[(.slice Ao29 t214.length co29)] 29 (0, 0))) ∧ Aside0 (wc.heap[gb222]? = some (.cells #[(.slice Ao35 t219.length co35)] 29 (0, 0))) ∧ Aside0 (wc.heap[gb230]? = some (.cells #[(.slice Ao46 t226.length co46)] 29 (0, 0))) ∧ Aside0 (Below w.heap.size w wc))
      case first =>
       have H := HC75.out
       clear HC75
       by_cases c86 : t236 < 0
       ·rw [if_pos c86] at H
        have c86b0 : decide (t236 < 0) = true := decide_eq_true c86
        clear c86
        (first | rw [c86b0] | (simp only [i64_w, i32_w]; rw [c86b0]) | skip)
        have H' := Aside0.mk H
        clear H
        go_wp2
        go_meet
        case rel => exact ⟨_, (true), (by first | rfl | (simp; done) | (simp [*]; done)), H', ⟨by have := HJ15.out; first | omega | exact Nat.le_refl _⟩, ⟨rk (Kd.R_mono HO_219000.out (fun _ hk => ⟨hk.1, hk.2.1⟩))⟩, ⟨rk (Kd.R_mono HO_223000.out (fun _ hk => ⟨hk.1.1, hk.1.2⟩))⟩, ⟨rk (Kd.R_mono HO_231000.out (fun _ hk => ⟨hk.1, hk.2.1⟩))⟩, ⟨bk BK205.out⟩, ⟨bk BK206.out⟩, ⟨bk BK218.out⟩, ⟨bk BK222.out⟩, ⟨bk BK230.out⟩, ⟨hB HB.out⟩⟩
       ·rw [if_neg c86] at H
        have c86b0 : decide (t236 < 0) = false := decide_eq_false c86
        clear c86
        (first | rw [c86b0] | (simp only [i64_w, i32_w]; rw [c86b0]) | skip)
        replace H := Option.bind_eq_some_iff.mp H
        obtain ⟨t238, A870, H⟩ := H
        replace H : (if t238 = true then (laws_FnExactAddClue.j1 kj15 t217 (t229 != t217) l0_0 a1_0 a1_1 a1_2 t214 t226) else (laws_FnExactAddClue.j1 kj15 t217 true l0_0 a1_0 a1_1 a1_2 t214 t226)) = some r := H
        have A87 := Aside0.mk A870
        clear A870
        by_cases c88 : t238 = true
        ·subst c88
         have H1 : (laws_FnExactAddClue.j1 kj15 t217 (t229 != t217) l0_0 a1_0 a1_1 a1_2 t214 t226) = some r := by rw [if_pos rfl] at H; exact H
         clear H
         have H := H1
         clear H1
         have H' := Aside0.mk H
         clear H
         have hnb89 := NB230_205.out
         have hnc89 := NB205_230.out
         have hnb90 := NB230_206.out
         have hnc90 := NB206_230.out
         have hnb91 := NB230_218.out
         have hnc91 := NB218_230.out
         have hnb92 := NB230_222.out
         have hnc92 := NB222_230.out
         have hcz93_0 : w85.cell? ⟨gb230, 0, none⟩ = some (.slice Ao46 t226.length co46) := (blk_cell BK230.out 0).trans rfl
         have hfz93_0 := blk_frozen BK230.out 0
         have hnb94 := NB218_205.out
         have hnc94 := NB205_218.out
         have hnb95 := NB218_206.out
         have hnc95 := NB206_218.out
         have hnb96 := NB218_222.out
         have hnc96 := NB222_218.out
         have hcz97_0 : w85.cell? ⟨gb218, 0, none⟩ = some (.slice Ao29 t214.length co29) := (blk_cell BK218.out 0).trans rfl
         have hfz97_0 := blk_frozen BK218.out 0
         go_wp2_with (first | (go_at_call 19; (with_reducible refine (laws_eqPuzzle.calls kj15 _ _ t226 _ _ t214 true _ ?side1 ?side2 ?side3 ?side4 A87.out).mono ?_); (case side1 => repeat (first | exact (Kd.R_reads' HO_231000.out).2.2 | (with_reducible refine Kd.C_alloc ?_ _) | (with_reducible refine Kd.C_drewN ?_ _) | (with_reducible refine Kd.C_drew ?_))); (case side2 => exact (Kd.R_reads' HO_231000.out).2.1); (case side3 => repeat (first | exact (Kd.R_reads' HO_219000.out).2.2 | (with_reducible refine Kd.C_alloc ?_ _) | (with_reducible refine Kd.C_drewN ?_ _) | (with_reducible refine Kd.C_drew ?_))); (case side4 => exact (Kd.R_reads' HO_219000.out).2.1); rintro e w98 ⟨rfl, hb⟩; have n0_ := Aside0.mk (Kd.R_below (rk HO_219000.out) hb); have n1_ := Aside0.mk (Kd.R_below (rk HO_223000.out) hb); have n2_ := Aside0.mk (Kd.R_below (rk HO_231000.out) hb); have n3_ := Aside0.mk (Kd.R_below (rk HO234.out) hb); have n4_ := Aside0.mk (blk_below (g := gb205) (o := .cells #[.slice A0_0 l0_0.length c0_0] 24 (0, 0)) (bk BK205.out) hb); have n5_ := Aside0.mk (blk_below (g := gb206) (o := .cells #[.int .i64 a1_0, .int .i64 a1_1, .int .i64 a1_2] 34 (0, 0)) (bk BK206.out) hb); have n6_ := Aside0.mk (blk_below (g := gb218) (o := .cells #[.slice Ao29 t214.length co29] 29 (0, 0)) (bk BK218.out) hb); have n7_ := Aside0.mk (blk_below (g := gb222) (o := .cells #[.slice Ao35 t219.length co35] 29 (0, 0)) (bk BK222.out) hb); have n8_ := Aside0.mk (blk_below (g := gb230) (o := .cells #[.slice Ao46 t226.length co46] 29 (0, 0)) (bk BK230.out) hb); have n9_ := Aside0.mk (below_step (hB HB.out) hb); clear HO_219000; clear HO_223000; clear HO_231000; clear HO234; clear BK205; clear BK206; clear BK218; clear BK222; clear BK230; clear HB; have HO_219000 := n0_; have HO_223000 := n1_; have HO_231000 := n2_; have HO234 := n3_; have BK205 := n4_; have BK206 := n5_; have BK218 := n6_; have BK222 := n7_; have BK230 := n8_; have HB := n9_; clear n0_ n1_ n2_ n3_ n4_ n5_ n6_ n7_ n8_ n9_; (try clear hb); (try clear hb2); (try clear hk); (try clear hi)))
         go_meet
         case rel => exact ⟨_, ((t229 != t217)), (by first | rfl | (simp; done) | (simp [*]; done)), H', ⟨by have := HJ15.out; first | omega | exact Nat.le_refl _⟩, ⟨rk (Kd.R_mono HO_219000.out (fun _ hk => ⟨hk.1, hk.2.1⟩))⟩, ⟨rk (Kd.R_mono HO_223000.out (fun _ hk => ⟨hk.1.1, hk.1.2⟩))⟩, ⟨rk (Kd.R_mono HO_231000.out (fun _ hk => ⟨hk.1, hk.2.1⟩))⟩, ⟨bk BK205.out⟩, ⟨bk BK206.out⟩, ⟨bk BK218.out⟩, ⟨bk BK222.out⟩, ⟨bk BK230.out⟩, ⟨hB HB.out⟩⟩
        ·replace c88 := Bool.eq_false_iff.mpr c88
         subst c88
         have H1 : (laws_FnExactAddClue.j1 kj15 t217 true l0_0 a1_0 a1_1 a1_2 t214 t226) = some r := by rw [if_neg (show ¬ (false = true) by decide)] at H; exact H
         clear H
         have H := H1
         clear H1
         have H' := Aside0.mk H
         clear H
         have hnb99 := NB230_205.out
         have hnc99 := NB205_230.out
         have hnb100 := NB230_206.out
         have hnc100 := NB206_230.out
         have hnb101 := NB230_218.out
         have hnc101 := NB218_230.out
         have hnb102 := NB230_222.out
         have hnc102 := NB222_230.out
         have hcz103_0 : w85.cell? ⟨gb230, 0, none⟩ = some (.slice Ao46 t226.length co46) := (blk_cell BK230.out 0).trans rfl
         have hfz103_0 := blk_frozen BK230.out 0
         have hnb104 := NB218_205.out
         have hnc104 := NB205_218.out
         have hnb105 := NB218_206.out
         have hnc105 := NB206_218.out
         have hnb106 := NB218_222.out
         have hnc106 := NB222_218.out
         have hcz107_0 : w85.cell? ⟨gb218, 0, none⟩ = some (.slice Ao29 t214.length co29) := (blk_cell BK218.out 0).trans rfl
         have hfz107_0 := blk_frozen BK218.out 0
         go_wp2_with (first | (go_at_call 19; (with_reducible refine (laws_eqPuzzle.calls kj15 _ _ t226 _ _ t214 false _ ?side1 ?side2 ?side3 ?side4 A87.out).mono ?_); (case side1 => repeat (first | exact (Kd.R_reads' HO_231000.out).2.2 | (with_reducible refine Kd.C_alloc ?_ _) | (with_reducible refine Kd.C_drewN ?_ _) | (with_reducible refine Kd.C_drew ?_))); (case side2 => exact (Kd.R_reads' HO_231000.out).2.1); (case side3 => repeat (first | exact (Kd.R_reads' HO_219000.out).2.2 | (with_reducible refine Kd.C_alloc ?_ _) | (with_reducible refine Kd.C_drewN ?_ _) | (with_reducible refine Kd.C_drew ?_))); (case side4 => exact (Kd.R_reads' HO_219000.out).2.1); rintro e w108 ⟨rfl, hb⟩; have n0_ := Aside0.mk (Kd.R_below (rk HO_219000.out) hb); have n1_ := Aside0.mk (Kd.R_below (rk HO_223000.out) hb); have n2_ := Aside0.mk (Kd.R_below (rk HO_231000.out) hb); have n3_ := Aside0.mk (Kd.R_below (rk HO234.out) hb); have n4_ := Aside0.mk (blk_below (g := gb205) (o := .cells #[.slice A0_0 l0_0.length c0_0] 24 (0, 0)) (bk BK205.out) hb); have n5_ := Aside0.mk (blk_below (g := gb206) (o := .cells #[.int .i64 a1_0, .int .i64 a1_1, .int .i64 a1_2] 34 (0, 0)) (bk BK206.out) hb); have n6_ := Aside0.mk (blk_below (g := gb218) (o := .cells #[.slice Ao29 t214.length co29] 29 (0, 0)) (bk BK218.out) hb); have n7_ := Aside0.mk (blk_below (g := gb222) (o := .cells #[.slice Ao35 t219.length co35] 29 (0, 0)) (bk BK222.out) hb); have n8_ := Aside0.mk (blk_below (g := gb230) (o := .cells #[.slice Ao46 t226.length co46] 29 (0, 0)) (bk BK230.out) hb); have n9_ := Aside0.mk (below_step (hB HB.out) hb); clear HO_219000; clear HO_223000; clear HO_231000; clear HO234; clear BK205; clear BK206; clear BK218; clear BK222; clear BK230; clear HB; have HO_219000 := n0_; have HO_223000 := n1_; have HO_231000 := n2_; have HO234 := n3_; have BK205 := n4_; have BK206 := n5_; have BK218 := n6_; have BK222 := n7_; have BK230 := n8_; have HB := n9_; clear n0_ n1_ n2_ n3_ n4_ n5_ n6_ n7_ n8_ n9_; (try clear hb); (try clear hb2); (try clear hk); (try clear hi)))
         go_meet
         case rel => exact ⟨_, (true), (by first | rfl | (simp; done) | (simp [*]; done)), H', ⟨by have := HJ15.out; first | omega | exact Nat.le_refl _⟩, ⟨rk (Kd.R_mono HO_219000.out (fun _ hk => ⟨hk.1, hk.2.1⟩))⟩, ⟨rk (Kd.R_mono HO_223000.out (fun _ hk => ⟨hk.1.1, hk.1.2⟩))⟩, ⟨rk (Kd.R_mono HO_231000.out (fun _ hk => ⟨hk.1, hk.2.1⟩))⟩, ⟨bk BK205.out⟩, ⟨bk BK206.out⟩, ⟨bk BK218.out⟩, ⟨bk BK222.out⟩, ⟨bk BK230.out⟩, ⟨hB HB.out⟩⟩
      case rest =>
       clear HC75
       try clear c1
       try clear c2
       try clear p2
       try clear c4
       try clear c5
       try clear c6
       try clear c7
       try clear c8
       try clear c9
       try clear c10
       try clear c17
       try clear c19
       try clear c21
       try clear c25
       try clear c26
       try clear c49
       try clear c50
       try clear c51
       try clear c52
       try clear c53
       try clear c55
       try clear c56
       try clear c57
       try clear c60
       try clear c61
       try clear c62
       try clear c63
       try clear c65
       try clear c66
       try clear c67
       try clear c70
       try clear c73
       try clear c80
       try clear c81
       try clear c82
       try clear c83
       try clear c86
       try clear c86b0
       try clear c88
       try clear c89
       try clear c90
       try clear c91
       try clear c92
       try clear c94
       try clear c95
       try clear c96
       try clear c99
       try clear c100
       try clear c101
       try clear c102
       try clear c104
       try clear c105
       try clear c106
       try clear hcz103_0
       try clear hcz107_0
       try clear hcz54_0
       try clear hcz58_0
       try clear hcz64_0
       try clear hcz68_0
       try clear hcz84_0
       try clear hcz93_0
       try clear hcz97_0
       try clear hfz103_0
       try clear hfz107_0
       try clear hfz54_0
       try clear hfz58_0
       try clear hfz64_0
       try clear hfz68_0
       try clear hfz84_0
       try clear hfz93_0
       try clear hfz97_0
       try clear p2
       obtain ⟨kq, x67_74, rfl, HA, HJ74, HO_219000, HO_223000, HO_231000, BK205, BK206, BK218, BK222, BK230, HB⟩ := hcut
       have hl223000_74 := (Kd.R_reads' HO_223000.out).1
       rw [hl223000_74] at HO_223000
       (try simp only [hl223000_74])
       (try simp only [hl223000_74] at BK205)
       (try simp only [hl223000_74] at BK206)
       (try simp only [hl223000_74] at BK218)
       (try simp only [hl223000_74] at BK222)
       (try simp only [hl223000_74] at BK230)
       (try simp only [hl223000_74] at HO_219000)
       (try simp only [hl223000_74] at HO_231000)
       cases kq with
       | zero => exact absurd HA.out (by simp [laws_FnExactAddClue.j1])
       | succ kj74 =>
        have H := HA.out
        clear HA
        simp only [laws_FnExactAddClue.j1] at H
        by_cases c109 : x67_74 = true
        ·subst c109
         have H1 : (some false) = some r := by rw [if_pos rfl] at H; exact H
         clear H
         have H := H1
         clear H1
         obtain rfl := Option.some.inj H
         go_wp2
         go_ret
         exact ⟨by first | rfl | (simp [errW_none, errW_some] <;> rfl) | (simp [*, errW_none, errW_some] <;> rfl), hB HB.out⟩
        ·replace c109 := Bool.eq_false_iff.mpr c109
         subst c109
         have H1 : ((laws_markPuzzle.f kj74 t226 1).bind fun bt239 => ((laws_heldPuzzle.f kj74 bt239.2 1).bind fun t241 => (if t241 < 0 then (some false) else (if t241 = bt239.1 then ((laws_toPuzzle.f kj74 l0_0).bind fun t242 => ((laws_toClue.f a1_0 a1_1 a1_2).bind fun bt245 => ((impl_AddClue.f kj74 t242 bt245.1 bt245.2.1 bt245.2.2).bind fun bt248 => ((laws_eqPuzzle.f kj74 bt248.1 t214).bind fun t253 => (if t253 = true then (laws_FnExactAddClue.j2 kj74 bt239.1 (bt248.2 != t217) bt239.2) else (laws_FnExactAddClue.j2 kj74 bt239.1 true bt239.2)))))) else (some false))))) = some r := by rw [if_neg (show ¬ (false = true) by decide)] at H; exact H
         clear H
         have H := H1
         clear H1
         replace H := Option.bind_eq_some_iff.mp H
         obtain ⟨⟨t239, t240⟩, A1100, H⟩ := H
         replace H : ((laws_heldPuzzle.f kj74 t240 1).bind fun t241 => (if t241 < 0 then (some false) else (if t241 = t239 then ((laws_toPuzzle.f kj74 l0_0).bind fun t242 => ((laws_toClue.f a1_0 a1_1 a1_2).bind fun bt245 => ((impl_AddClue.f kj74 t242 bt245.1 bt245.2.1 bt245.2.2).bind fun bt248 => ((laws_eqPuzzle.f kj74 bt248.1 t214).bind fun t253 => (if t253 = true then (laws_FnExactAddClue.j2 kj74 t239 (bt248.2 != t217) t240) else (laws_FnExactAddClue.j2 kj74 t239 true t240)))))) else (some false)))) = some r := H
         have A110 := Aside0.mk A1100
         clear A1100
         replace H := Option.bind_eq_some_iff.mp H
         obtain ⟨t241, A1110, H⟩ := H
         replace H : (if t241 < 0 then (some false) else (if t241 = t239 then ((laws_toPuzzle.f kj74 l0_0).bind fun t242 => ((laws_toClue.f a1_0 a1_1 a1_2).bind fun bt245 => ((impl_AddClue.f kj74 t242 bt245.1 bt245.2.1 bt245.2.2).bind fun bt248 => ((laws_eqPuzzle.f kj74 bt248.1 t214).bind fun t253 => (if t253 = true then (laws_FnExactAddClue.j2 kj74 t239 (bt248.2 != t217) t240) else (laws_FnExactAddClue.j2 kj74 t239 true t240)))))) else (some false))) = some r := H
         have A111 := Aside0.mk A1110
         clear A1110
         by_cases c112 : t241 < 0
         ·rw [if_pos c112] at H
          have c112b0 : decide (t241 < 0) = true := decide_eq_true c112
          clear c112
          obtain rfl := Option.some.inj H
          have hnb113 := NB230_205.out
          have hnc113 := NB205_230.out
          have hnb114 := NB230_206.out
          have hnc114 := NB206_230.out
          have hnb115 := NB230_218.out
          have hnc115 := NB218_230.out
          have hnb116 := NB230_222.out
          have hnc116 := NB222_230.out
          have hcz117_0 : wc.cell? ⟨gb230, 0, none⟩ = some (.slice Ao46 t226.length co46) := (blk_cell BK230.out 0).trans rfl
          have hfz117_0 := blk_frozen BK230.out 0
          go_wp2_with (first | ((with_reducible refine gate_callee (f := 26) rfl ?_); refine goesL_ (some 70) rfl rfl Try.func26 (by kernel_rfl) rfl #[.agg #[.slice Ao46 t226.length co46], .int .i64 1] rfl (by (try simp only [List.map_toArray, List.map_cons, List.map_nil]); first | done | rfl | (simp only [List.length_drop, List.length_take]; rfl)) ?_; (with_reducible refine (laws_markPuzzle.calls kj74 (fun k_ => some k_ = (.slice Ao46 t226.length co46 : Value).ownBlock) (.slice Ao46 t226.length co46) t226 1 t239 t240 w _ ?side1 ?side2 A110.out).mono ?_); (case side1 => repeat (first | (with_reducible first | exact HB.out | apply below_alloc | apply pw_below_drewN | apply below_drew1 | refine below_set ?_ GE205.out | refine below_set ?_ GE206.out | refine below_set ?_ GE218.out | refine below_set ?_ GE222.out | refine below_set ?_ GE230.out) | exact HB.out)); (case side2 => exact Kd.R_tight rfl HO_231000.out); rintro e w118 ⟨rfl, hy0, hb, hkp⟩; refine ⟨_, rfl, ?_⟩; have n0_ := Aside0.mk (Kd.R_mono (ok' := fun k_ => some k_ ≠ (.slice Ao35 t237.length co35 : Value).ownBlock ∧ some k_ ≠ (.slice Ao46 t226.length co46 : Value).ownBlock) (Kd.R_keptB (HO_219000.out) hkp (fun k_ hk_ hs_ => (hk_.2) hs_)) (fun k_ hk_ => ⟨hk_.1.1, hk_.1.2⟩)); have n1_ := Aside0.mk (Kd.R_mono (ok' := fun k_ => some k_ ≠ (.slice Ao29 t214.length co29 : Value).ownBlock ∧ some k_ ≠ (.slice Ao46 t226.length co46 : Value).ownBlock) (Kd.R_keptB (HO_223000.out) hkp (fun k_ hk_ hs_ => (hk_.2) hs_)) (fun k_ hk_ => ⟨hk_.1.1, hk_.1.2⟩)); have n2_ := Aside0.mk (Kd.R_reok rfl hy0 (fun k_ e_ => HO_231000.out.1 k_ e_)); have n3_ := Aside0.mk (blk_kept (bk BK205.out) hkp (fun hs_ => (fun e_ => (Kd.R_ne HO_231000.out BK205.out (by decide)) e_) hs_)); have n4_ := Aside0.mk (blk_kept (bk BK206.out) hkp (fun hs_ => (fun e_ => (Kd.R_ne HO_231000.out BK206.out (by decide)) e_) hs_)); have n5_ := Aside0.mk (blk_kept (bk BK218.out) hkp (fun hs_ => (fun e_ => (Kd.R_ne HO_231000.out BK218.out (by decide)) e_) hs_)); have n6_ := Aside0.mk (blk_kept (bk BK222.out) hkp (fun hs_ => (fun e_ => (Kd.R_ne HO_231000.out BK222.out (by decide)) e_) hs_)); have n7_ := Aside0.mk (blk_kept (bk BK230.out) hkp (fun hs_ => (fun e_ => (Kd.R_ne HO_231000.out BK230.out (by decide)) e_) hs_)); have n8_ := Aside0.mk (hb); clear HO_219000; clear HO_223000; clear HO_231000; clear BK205; clear BK206; clear BK218; clear BK222; clear BK230; clear HB; have HO_219000 := n0_; have HO_223000 := n1_; have HO_231000 := n2_; have BK205 := n3_; have BK206 := n4_; have BK218 := n5_; have BK222 := n6_; have BK230 := n7_; have HB := n8_; clear n0_ n1_ n2_ n3_ n4_ n5_ n6_ n7_ n8_; (try clear hb); (try clear hkp); (try clear hy0); have hcz119_0 : w118.cell? ⟨gb230, 0, none⟩ = some (.slice Ao46 t226.length co46) := (blk_cell BK230.out 0).trans rfl; have hfz119_0 := blk_frozen BK230.out 0) | ((with_reducible refine gate_callee (f := 27) rfl ?_); refine goesL_ (some 73) rfl rfl Try.func27 (by kernel_rfl) rfl #[.agg #[.slice Ao46 t240.length co46], .int .i64 1] rfl (by (try simp only [List.map_toArray, List.map_cons, List.map_nil]); first | done | (rw [show t240.length = t226.length from (Kd.R_reads' HO_231000.out).1.symm] <;> rfl) | rfl | (simp only [List.length_drop, List.length_take]; rfl)) ?_; (with_reducible refine (laws_heldPuzzle.calls kj74 _ _ t240 1 t241 _ ?side1 ?side2 A111.out).mono ?_); (case side1 => repeat (first | exact (Kd.R_reads' HO_231000.out).2.2 | (with_reducible refine Kd.C_alloc ?_ _) | (with_reducible refine Kd.C_drewN ?_ _) | (with_reducible refine Kd.C_drew ?_))); (case side2 => rw [show t240.length = t226.length from (Kd.R_reads' HO_231000.out).1.symm]; exact (Kd.R_reads' HO_231000.out).2.1); rintro e w120 ⟨rfl, hb⟩; refine ⟨_, rfl, ?_⟩; have n0_ := Aside0.mk (Kd.R_below (rk HO_219000.out) hb); have n1_ := Aside0.mk (Kd.R_below (rk HO_223000.out) hb); have n2_ := Aside0.mk (Kd.R_below (rk HO_231000.out) hb); have n3_ := Aside0.mk (blk_below (g := gb205) (o := .cells #[.slice A0_0 l0_0.length c0_0] 24 (0, 0)) (bk BK205.out) hb); have n4_ := Aside0.mk (blk_below (g := gb206) (o := .cells #[.int .i64 a1_0, .int .i64 a1_1, .int .i64 a1_2] 34 (0, 0)) (bk BK206.out) hb); have n5_ := Aside0.mk (blk_below (g := gb218) (o := .cells #[.slice Ao29 t214.length co29] 29 (0, 0)) (bk BK218.out) hb); have n6_ := Aside0.mk (blk_below (g := gb222) (o := .cells #[.slice Ao35 t237.length co35] 29 (0, 0)) (bk BK222.out) hb); have n7_ := Aside0.mk (blk_below (g := gb230) (o := .cells #[.slice Ao46 t226.length co46] 29 (0, 0)) (bk BK230.out) hb); have n8_ := Aside0.mk (below_step (hB HB.out) hb); clear HO_219000; clear HO_223000; clear HO_231000; clear BK205; clear BK206; clear BK218; clear BK222; clear BK230; clear HB; have HO_219000 := n0_; have HO_223000 := n1_; have HO_231000 := n2_; have BK205 := n3_; have BK206 := n4_; have BK218 := n5_; have BK222 := n6_; have BK230 := n7_; have HB := n8_; clear n0_ n1_ n2_ n3_ n4_ n5_ n6_ n7_ n8_; (try clear hb); (try clear hb2); (try clear hk); (try clear hi)))
          go_ret
          exact ⟨by first | rfl | (simp [errW_none, errW_some] <;> rfl) | (simp [*, errW_none, errW_some] <;> rfl), hB HB.out⟩
         ·rw [if_neg c112] at H
          have c112b0 : decide (t241 < 0) = false := decide_eq_false c112
          clear c112
          by_cases c121 : t241 = t239
          ·rw [if_pos c121] at H
           have c121b0 : (t241 == t239) = true := beq_iff_eq.mpr c121
           have c121b1 : (t241 != t239) = false := bne_eq_false_iff_eq.mpr c121
           clear c121
           replace H := Option.bind_eq_some_iff.mp H
           obtain ⟨t242, A1220, H⟩ := H
           replace H : ((laws_toClue.f a1_0 a1_1 a1_2).bind fun bt245 => ((impl_AddClue.f kj74 t242 bt245.1 bt245.2.1 bt245.2.2).bind fun bt248 => ((laws_eqPuzzle.f kj74 bt248.1 t214).bind fun t253 => (if t253 = true then (laws_FnExactAddClue.j2 kj74 t239 (bt248.2 != t217) t240) else (laws_FnExactAddClue.j2 kj74 t239 true t240))))) = some r := H
           have A122 := Aside0.mk A1220
           clear A1220
           replace H := Option.bind_eq_some_iff.mp H
           obtain ⟨⟨t245, t246, t247⟩, A1230, H⟩ := H
           replace H : ((impl_AddClue.f kj74 t242 t245 t246 t247).bind fun bt248 => ((laws_eqPuzzle.f kj74 bt248.1 t214).bind fun t253 => (if t253 = true then (laws_FnExactAddClue.j2 kj74 t239 (bt248.2 != t217) t240) else (laws_FnExactAddClue.j2 kj74 t239 true t240)))) = some r := H
           have A123 := Aside0.mk A1230
           clear A1230
           replace H := Option.bind_eq_some_iff.mp H
           obtain ⟨⟨t248, t251⟩, A1240, H⟩ := H
           replace H : ((laws_eqPuzzle.f kj74 t248 t214).bind fun t253 => (if t253 = true then (laws_FnExactAddClue.j2 kj74 t239 (t251 != t217) t240) else (laws_FnExactAddClue.j2 kj74 t239 true t240))) = some r := H
           have A124 := Aside0.mk A1240
           clear A1240
           have HC125 := Aside0.mk H
           clear H
           have hnb126 := NB230_205.out
           have hnc126 := NB205_230.out
           have hnb127 := NB230_206.out
           have hnc127 := NB206_230.out
           have hnb128 := NB230_218.out
           have hnc128 := NB218_230.out
           have hnb129 := NB230_222.out
           have hnc129 := NB222_230.out
           have hcz130_0 : wc.cell? ⟨gb230, 0, none⟩ = some (.slice Ao46 t226.length co46) := (blk_cell BK230.out 0).trans rfl
           have hfz130_0 := blk_frozen BK230.out 0
           try go_wp2_with (first | ((with_reducible refine gate_callee (f := 26) rfl ?_); refine goesL_ (some 70) rfl rfl Try.func26 (by kernel_rfl) rfl #[.agg #[.slice Ao46 t226.length co46], .int .i64 1] rfl (by (try simp only [List.map_toArray, List.map_cons, List.map_nil]); first | done | rfl | (simp only [List.length_drop, List.length_take]; rfl)) ?_; (with_reducible refine (laws_markPuzzle.calls kj74 (fun k_ => some k_ = (.slice Ao46 t226.length co46 : Value).ownBlock) (.slice Ao46 t226.length co46) t226 1 t239 t240 w _ ?side1 ?side2 A110.out).mono ?_); (case side1 => repeat (first | (with_reducible first | exact HB.out | apply below_alloc | apply pw_below_drewN | apply below_drew1 | refine below_set ?_ GE205.out | refine below_set ?_ GE206.out | refine below_set ?_ GE218.out | refine below_set ?_ GE222.out | refine below_set ?_ GE230.out) | exact HB.out)); (case side2 => exact Kd.R_tight rfl HO_231000.out); rintro e w131 ⟨rfl, hy0, hb, hkp⟩; refine ⟨_, rfl, ?_⟩; have n0_ := Aside0.mk (Kd.R_mono (ok' := fun k_ => some k_ ≠ (.slice Ao35 t237.length co35 : Value).ownBlock ∧ some k_ ≠ (.slice Ao46 t226.length co46 : Value).ownBlock) (Kd.R_keptB (HO_219000.out) hkp (fun k_ hk_ hs_ => (hk_.2) hs_)) (fun k_ hk_ => ⟨hk_.1.1, hk_.1.2⟩)); have n1_ := Aside0.mk (Kd.R_mono (ok' := fun k_ => some k_ ≠ (.slice Ao29 t214.length co29 : Value).ownBlock ∧ some k_ ≠ (.slice Ao46 t226.length co46 : Value).ownBlock) (Kd.R_keptB (HO_223000.out) hkp (fun k_ hk_ hs_ => (hk_.2) hs_)) (fun k_ hk_ => ⟨hk_.1.1, hk_.1.2⟩)); have n2_ := Aside0.mk (Kd.R_reok rfl hy0 (fun k_ e_ => HO_231000.out.1 k_ e_)); have n3_ := Aside0.mk (blk_kept (bk BK205.out) hkp (fun hs_ => (fun e_ => (Kd.R_ne HO_231000.out BK205.out (by decide)) e_) hs_)); have n4_ := Aside0.mk (blk_kept (bk BK206.out) hkp (fun hs_ => (fun e_ => (Kd.R_ne HO_231000.out BK206.out (by decide)) e_) hs_)); have n5_ := Aside0.mk (blk_kept (bk BK218.out) hkp (fun hs_ => (fun e_ => (Kd.R_ne HO_231000.out BK218.out (by decide)) e_) hs_)); have n6_ := Aside0.mk (blk_kept (bk BK222.out) hkp (fun hs_ => (fun e_ => (Kd.R_ne HO_231000.out BK222.out (by decide)) e_) hs_)); have n7_ := Aside0.mk (blk_kept (bk BK230.out) hkp (fun hs_ => (fun e_ => (Kd.R_ne HO_231000.out BK230.out (by decide)) e_) hs_)); have n8_ := Aside0.mk (hb); clear HO_219000; clear HO_223000; clear HO_231000; clear BK205; clear BK206; clear BK218; clear BK222; clear BK230; clear HB; have HO_219000 := n0_; have HO_223000 := n1_; have HO_231000 := n2_; have BK205 := n3_; have BK206 := n4_; have BK218 := n5_; have BK222 := n6_; have BK230 := n7_; have HB := n8_; clear n0_ n1_ n2_ n3_ n4_ n5_ n6_ n7_ n8_; (try clear hb); (try clear hkp); (try clear hy0); have hcz132_0 : w131.cell? ⟨gb230, 0, none⟩ = some (.slice Ao46 t226.length co46) := (blk_cell BK230.out 0).trans rfl; have hfz132_0 := blk_frozen BK230.out 0) | ((with_reducible refine gate_callee (f := 27) rfl ?_); refine goesL_ (some 73) rfl rfl Try.func27 (by kernel_rfl) rfl #[.agg #[.slice Ao46 t240.length co46], .int .i64 1] rfl (by (try simp only [List.map_toArray, List.map_cons, List.map_nil]); first | done | (rw [show t240.length = t226.length from (Kd.R_reads' HO_231000.out).1.symm] <;> rfl) | rfl | (simp only [List.length_drop, List.length_take]; rfl)) ?_; (with_reducible refine (laws_heldPuzzle.calls kj74 _ _ t240 1 t241 _ ?side1 ?side2 A111.out).mono ?_); (case side1 => repeat (first | exact (Kd.R_reads' HO_231000.out).2.2 | (with_reducible refine Kd.C_alloc ?_ _) | (with_reducible refine Kd.C_drewN ?_ _) | (with_reducible refine Kd.C_drew ?_))); (case side2 => rw [show t240.length = t226.length from (Kd.R_reads' HO_231000.out).1.symm]; exact (Kd.R_reads' HO_231000.out).2.1); rintro e w133 ⟨rfl, hb⟩; refine ⟨_, rfl, ?_⟩; have n0_ := Aside0.mk (Kd.R_below (rk HO_219000.out) hb); have n1_ := Aside0.mk (Kd.R_below (rk HO_223000.out) hb); have n2_ := Aside0.mk (Kd.R_below (rk HO_231000.out) hb); have n3_ := Aside0.mk (blk_below (g := gb205) (o := .cells #[.slice A0_0 l0_0.length c0_0] 24 (0, 0)) (bk BK205.out) hb); have n4_ := Aside0.mk (blk_below (g := gb206) (o := .cells #[.int .i64 a1_0, .int .i64 a1_1, .int .i64 a1_2] 34 (0, 0)) (bk BK206.out) hb); have n5_ := Aside0.mk (blk_below (g := gb218) (o := .cells #[.slice Ao29 t214.length co29] 29 (0, 0)) (bk BK218.out) hb); have n6_ := Aside0.mk (blk_below (g := gb222) (o := .cells #[.slice Ao35 t237.length co35] 29 (0, 0)) (bk BK222.out) hb); have n7_ := Aside0.mk (blk_below (g := gb230) (o := .cells #[.slice Ao46 t226.length co46] 29 (0, 0)) (bk BK230.out) hb); have n8_ := Aside0.mk (below_step (hB HB.out) hb); clear HO_219000; clear HO_223000; clear HO_231000; clear BK205; clear BK206; clear BK218; clear BK222; clear BK230; clear HB; have HO_219000 := n0_; have HO_223000 := n1_; have HO_231000 := n2_; have BK205 := n3_; have BK206 := n4_; have BK218 := n5_; have BK222 := n6_; have BK230 := n7_; have HB := n8_; clear n0_ n1_ n2_ n3_ n4_ n5_ n6_ n7_ n8_; (try clear hb); (try clear hb2); (try clear hk); (try clear hi)))
           have n0_ := Aside0.mk (Kd.R_drew HO_219000.out)
           have n1_ := Aside0.mk (Kd.R_drew HO_223000.out)
           have n2_ := Aside0.mk (Kd.R_drew HO_231000.out)
           have n3_ := Aside0.mk (blk_drew BK205.out)
           have n4_ := Aside0.mk (blk_drew BK206.out)
           have n5_ := Aside0.mk (blk_drew BK218.out)
           have n6_ := Aside0.mk (blk_drew BK222.out)
           have n7_ := Aside0.mk (blk_drew BK230.out)
           have n8_ := Aside0.mk (below_drew1 HB.out)
           clear HO_219000
           clear HO_223000
           clear HO_231000
           clear BK205
           clear BK206
           clear BK218
           clear BK222
           clear BK230
           clear HB
           have HO_219000 := n0_
           have HO_223000 := n1_
           have HO_231000 := n2_
           have BK205 := n3_
           have BK206 := n4_
           have BK218 := n5_
           have BK222 := n6_
           have BK230 := n7_
           have HB := n8_
           clear n0_ n1_ n2_ n3_ n4_ n5_ n6_ n7_ n8_
           refine start_ (n := 11) (S := fun w' => w'.cell? ⟨gb205, 0, none⟩ = some (.slice A0_0 l0_0.length c0_0) ∧ w'.cell? ⟨gb206, 0, none⟩ = some (.int .i64 a1_0) ∧ w'.cell? ⟨gb206, 1, none⟩ = some (.int .i64 a1_1) ∧ w'.cell? ⟨gb206, 2, none⟩ = some (.int .i64 a1_2)) (ds := []) #[false, false, false, false, false, false, false, false, false, false, false] (by kernel_rfl) rfl rfl ⟨(blk_cell BK205.out 0).trans rfl, (blk_cell BK206.out 0).trans rfl, (blk_cell BK206.out 1).trans rfl, (blk_cell BK206.out 2).trans rfl⟩ (fun hHeld => ?_); refine with_tabW laws_FnExactAddClue.tab24 laws_FnExactAddClue.bits24 (fun HT_ HW_ => ?_)
           generalize w133.drew = w134 at HO_219000 HO_223000 HO_231000 BK205 BK206 BK218 BK222 BK230 HB hHeld ⊢
           refine take_ (i := 0) (N := some 80) (v := ?_) (a' := ?_) #[true, false, false, false, false, false, false, false, false, false, false] rfl rfl (take_ofW HT_.out HW_.out (by kernel_rfl)) (fun _ _ _ h => h) (Or.inl ⟨by rfl, ?_⟩) hHeld ?_ ?_
           rotate_left
           ·rintro w' ⟨s0, s1, s2, s3⟩
            go_simp
            with_reducible rfl
           rotate_left
           ·simp only [Act.put, List.setIfInBounds_toArray, List.set_cons_zero, List.set_cons_succ, i64_w, i32_w]
            rfl
           refine take_ (i := 2) (N := some 82) (v := ?_) (a' := ?_) #[true, false, true, false, false, false, false, false, false, false, false] rfl rfl (take_ofW HT_.out HW_.out (by kernel_rfl)) (fun _ _ _ h => h) (Or.inl ⟨by rfl, ?_⟩) hHeld ?_ ?_
           rotate_left
           ·rintro w' ⟨s0, s1, s2, s3⟩
            go_simp
            with_reducible rfl
           rotate_left
           ·simp only [Act.put, List.setIfInBounds_toArray, List.set_cons_zero, List.set_cons_succ, i64_w, i32_w]
            rfl
           refine join_ (σ := Value × Value × Nat) 2 #[true, true, true, true, true, true, true, true, true, false, false] (fun s_ => [(81, .agg #[s_.1]), (83, .agg #[.int .i64 t245, .int .i64 t246, .int .i64 t247]), (84, .tuple #[.agg #[s_.2.1], .bool t251]), (14, .pointer (some ⟨s_.2.2, 0, none⟩)), (79, .tuple #[.agg #[s_.2.1], .bool t251]), (85, .agg #[s_.2.1]), (86, .bool t251)]) (fun s_ w' => (w'.cell? ⟨gb205, 0, none⟩ = some (.slice A0_0 l0_0.length c0_0) ∧ w'.cell? ⟨gb206, 0, none⟩ = some (.int .i64 a1_0) ∧ w'.cell? ⟨gb206, 1, none⟩ = some (.int .i64 a1_1) ∧ w'.cell? ⟨gb206, 2, none⟩ = some (.int .i64 a1_2)) ∧ (Kd.R k39 39 w' w.heap.size (fun k_ => some k_ ≠ (s_.2.1 : Value).ownBlock ∧ some k_ ≠ (.slice Ao29 t214.length co29 : Value).ownBlock ∧ some k_ ≠ (.slice Ao35 t237.length co35 : Value).ownBlock ∧ some k_ ≠ (.slice Ao46 t226.length co46 : Value).ownBlock) s_.1 t242) ∧ (Kd.R k39 39 w' w.heap.size (fun k_ => some k_ ≠ (s_.1 : Value).ownBlock ∧ some k_ ≠ (.slice Ao29 t214.length co29 : Value).ownBlock ∧ some k_ ≠ (.slice Ao35 t237.length co35 : Value).ownBlock ∧ some k_ ≠ (.slice Ao46 t226.length co46 : Value).ownBlock) s_.2.1 t248) ∧ (Kd.R k39 39 w' w.heap.size (fun k_ => some k_ ≠ (s_.1 : Value).ownBlock ∧ some k_ ≠ (s_.2.1 : Value).ownBlock ∧ some k_ ≠ (.slice Ao35 t237.length co35 : Value).ownBlock ∧ some k_ ≠ (.slice Ao46 t226.length co46 : Value).ownBlock) (.slice Ao29 t214.length co29) t214) ∧ (Kd.R k39 39 w' w.heap.size (fun k_ => some k_ ≠ (s_.1 : Value).ownBlock ∧ some k_ ≠ (s_.2.1 : Value).ownBlock ∧ some k_ ≠ (.slice Ao29 t214.length co29 : Value).ownBlock ∧ some k_ ≠ (.slice Ao46 t226.length co46 : Value).ownBlock) (.slice Ao35 t237.length co35) t237) ∧ (Kd.R k39 39 w' w.heap.size (fun k_ => some k_ ≠ (s_.1 : Value).ownBlock ∧ some k_ ≠ (s_.2.1 : Value).ownBlock ∧ some k_ ≠ (.slice Ao29 t214.length co29 : Value).ownBlock ∧ some k_ ≠ (.slice Ao35 t237.length co35 : Value).ownBlock) (.slice Ao46 t226.length co46) t240) ∧ (w'.heap[gb205]? = some (.cells #[.slice A0_0 l0_0.length c0_0] 24 (0, 0))) ∧ (w'.heap[gb206]? = some (.cells #[.int .i64 a1_0, .int .i64 a1_1, .int .i64 a1_2] 34 (0, 0))) ∧ (w'.heap[gb218]? = some (.cells #[.slice Ao29 t214.length co29] 29 (0, 0))) ∧ (w'.heap[gb222]? = some (.cells #[.slice Ao35 t237.length co35] 29 (0, 0))) ∧ (w'.heap[gb230]? = some (.cells #[.slice Ao46 t226.length co46] 29 (0, 0))) ∧ (w'.heap[s_.2.2]? = some (.cells #[.slice none 0 0] 29 (0, 0))) ∧ (w.heap.size ≤ s_.2.2) ∧ (w.heap.size ≤ s_.2.2) ∧ (gb205 ≠ s_.2.2) ∧ (s_.2.2 ≠ gb205) ∧ (gb206 ≠ s_.2.2) ∧ (s_.2.2 ≠ gb206) ∧ (gb218 ≠ s_.2.2) ∧ (s_.2.2 ≠ gb218) ∧ (gb222 ≠ s_.2.2) ∧ (s_.2.2 ≠ gb222) ∧ (gb230 ≠ s_.2.2) ∧ (s_.2.2 ≠ gb230) ∧ (Below w.heap.size w w')) ?_ ?_
           rotate_left
           ·intro hCont
            refine two_ (i := 1) (j := 8) (Ni := some 81) (Nj := some 14) #[true, true, true, false, false, false, false, false, false, false, false] #[true, false, true, false, false, false, false, false, true, false, false] rfl rfl rfl rfl (two_of HT_.out (by kernel_rfl)) (by decide) (by decide) (fun K hK => ?_) (fun K hK => ?_)
            ·skip
             refine goes_ Try.func17 (by kernel_rfl) rfl #[.agg #[.slice A0_0 l0_0.length c0_0]] (by rfl) rfl rfl (by (try simp only [List.map_toArray, List.map_cons, List.map_nil]); first | done | rfl | (simp only [List.length_drop, List.length_take]; rfl)) ?_
             with_reducible refine (laws_toPuzzle.calls kj74 _ _ l0_0 t242 _ ?side1 ?side2 A122.out).mono ?_
             (case side1 => repeat (first | exact (Kd.C_below HR0_0.out HB.out) | (with_reducible refine Kd.C_alloc ?_ _) | (with_reducible refine Kd.C_drewN ?_ _) | (with_reducible refine Kd.C_drew ?_)))
             (case side2 => exact HC0_0.out)
             rintro e w135 ⟨v243, rfl, ho0, hb⟩
             refine ⟨_, rfl, ?_⟩
             have n0_ := Aside0.mk (Kd.R_elder' (rk HO_219000.out) (Kd.R_base ho0) hb)
             have n1_ := Aside0.mk (Kd.R_elder' (rk HO_223000.out) (Kd.R_base ho0) hb)
             have n2_ := Aside0.mk (Kd.R_elder' (rk HO_231000.out) (Kd.R_base ho0) hb)
             have n3_ := Aside0.mk (Kd.R_lower (Kd.R_new' (Kd.R_new' (Kd.R_new' ho0 (Kd.R_lt (rk HO_219000.out))) (Kd.R_lt (rk HO_223000.out))) (Kd.R_lt (rk HO_231000.out))) (below_size (hB HB.out)))
             have n4_ := Aside0.mk (blk_below (g := gb205) (o := .cells #[.slice A0_0 l0_0.length c0_0] 24 (0, 0)) (bk BK205.out) hb)
             have n5_ := Aside0.mk (blk_below (g := gb206) (o := .cells #[.int .i64 a1_0, .int .i64 a1_1, .int .i64 a1_2] 34 (0, 0)) (bk BK206.out) hb)
             have n6_ := Aside0.mk (blk_below (g := gb218) (o := .cells #[.slice Ao29 t214.length co29] 29 (0, 0)) (bk BK218.out) hb)
             have n7_ := Aside0.mk (blk_below (g := gb222) (o := .cells #[.slice Ao35 t237.length co35] 29 (0, 0)) (bk BK222.out) hb)
             have n8_ := Aside0.mk (blk_below (g := gb230) (o := .cells #[.slice Ao46 t226.length co46] 29 (0, 0)) (bk BK230.out) hb)
             have n9_ := Aside0.mk (below_step (hB HB.out) hb)
             clear HO_219000
             clear HO_223000
             clear HO_231000
             clear BK205
             clear BK206
             clear BK218
             clear BK222
             clear BK230
             clear HB
             have HO_219000 := n0_
             have HO_223000 := n1_
             have HO_231000 := n2_
             have HO244 := n3_
             have BK205 := n4_
             have BK206 := n5_
             have BK218 := n6_
             have BK222 := n7_
             have BK230 := n8_
             have HB := n9_
             clear n0_ n1_ n2_ n3_ n4_ n5_ n6_ n7_ n8_ n9_
             (try clear hb)
             (try clear hb2)
             (try clear hk)
             (try clear hi)
             (try clear ho0)
             refine hK.out _ _ ⟨(blk_cell BK205.out 0).trans rfl, (blk_cell BK206.out 0).trans rfl, (blk_cell BK206.out 1).trans rfl, (blk_cell BK206.out 2).trans rfl⟩ (fun hHeld => ?_)
             clear hK K
             refine norm_ (a' := ?_) ?_ ?_
             rotate_left
             ·show Act.put _ (some 81) _ = _
              simp only [Act.put, List.setIfInBounds_toArray, List.set_cons_zero, List.set_cons_succ, i64_w, i32_w]
              rfl
             refine two_ (i := 3) (j := 8) (Ni := some 83) (Nj := some 14) #[true, true, true, true, false, false, false, false, false, false, false] #[true, true, true, false, false, false, false, false, true, false, false] rfl rfl rfl rfl (two_of HT_.out (by kernel_rfl)) (by decide) (by decide) (fun K hK => ?_) (fun K hK => ?_)
             ·skip
              refine goes_ Try.func21 (by kernel_rfl) rfl #[.agg #[.int .i64 a1_0, .int .i64 a1_1, .int .i64 a1_2]] (by rfl) rfl rfl (by (try simp only [List.map_toArray, List.map_cons, List.map_nil]); first | done | rfl | (simp only [List.length_drop, List.length_take]; rfl)) ?_
              with_reducible refine (laws_toClue.calls a1_0 a1_1 a1_2 t245 t246 t247 _ A123.out).mono ?_
              rintro e w136 ⟨rfl, hb⟩
              refine ⟨_, rfl, ?_⟩
              have n0_ := Aside0.mk (Kd.R_below (rk HO_219000.out) hb)
              have n1_ := Aside0.mk (Kd.R_below (rk HO_223000.out) hb)
              have n2_ := Aside0.mk (Kd.R_below (rk HO_231000.out) hb)
              have n3_ := Aside0.mk (Kd.R_below (rk HO244.out) hb)
              have n4_ := Aside0.mk (blk_below (g := gb205) (o := .cells #[.slice A0_0 l0_0.length c0_0] 24 (0, 0)) (bk BK205.out) hb)
              have n5_ := Aside0.mk (blk_below (g := gb206) (o := .cells #[.int .i64 a1_0, .int .i64 a1_1, .int .i64 a1_2] 34 (0, 0)) (bk BK206.out) hb)
              have n6_ := Aside0.mk (blk_below (g := gb218) (o := .cells #[.slice Ao29 t214.length co29] 29 (0, 0)) (bk BK218.out) hb)
              have n7_ := Aside0.mk (blk_below (g := gb222) (o := .cells #[.slice Ao35 t237.length co35] 29 (0, 0)) (bk BK222.out) hb)
              have n8_ := Aside0.mk (blk_below (g := gb230) (o := .cells #[.slice Ao46 t226.length co46] 29 (0, 0)) (bk BK230.out) hb)
              have n9_ := Aside0.mk (below_step (hB HB.out) hb)
              clear HO_219000
              clear HO_223000
              clear HO_231000
              clear HO244
              clear BK205
              clear BK206
              clear BK218
              clear BK222
              clear BK230
              clear HB
              have HO_219000 := n0_
              have HO_223000 := n1_
              have HO_231000 := n2_
              have HO244 := n3_
              have BK205 := n4_
              have BK206 := n5_
              have BK218 := n6_
              have BK222 := n7_
              have BK230 := n8_
              have HB := n9_
              clear n0_ n1_ n2_ n3_ n4_ n5_ n6_ n7_ n8_ n9_
              (try clear hb)
              (try clear hb2)
              (try clear hk)
              (try clear hi)
              obtain ⟨Ao137, co137, eo137⟩ := Kd.R_slice HO244.out
              (first | subst eo137 | (injection eo137 with f1_ f2_ f3_; have f4_ := f1_.symm; have f5_ := f3_.symm; clear f1_ f2_ f3_; subst f4_; subst f5_))
              refine hK.out _ _ ⟨(blk_cell BK205.out 0).trans rfl, (blk_cell BK206.out 0).trans rfl, (blk_cell BK206.out 1).trans rfl, (blk_cell BK206.out 2).trans rfl⟩ (fun hHeld => ?_)
              clear hK K
              refine norm_ (a' := ?_) ?_ ?_
              rotate_left
              ·show Act.put _ (some 83) _ = _
               simp only [Act.put, List.setIfInBounds_toArray, List.set_cons_zero, List.set_cons_succ, i64_w, i32_w]
               rfl
              refine two_ (i := 4) (j := 8) (Ni := some 84) (Nj := some 14) #[true, true, true, true, true, false, false, false, false, false, false] #[true, true, true, true, false, false, false, false, true, false, false] rfl rfl rfl rfl (two_of HT_.out (by kernel_rfl)) (by decide) (by decide) (fun K hK => ?_) (fun K hK => ?_)
              ·skip
               refine goes_ Try.func25 (by kernel_rfl) rfl #[.agg #[.slice Ao137 t242.length co137], .agg #[.int .i64 t245, .int .i64 t246, .int .i64 t247]] (by rfl) rfl rfl (by (try simp only [List.map_toArray, List.map_cons, List.map_nil]); first | done | rfl | (simp only [List.length_drop, List.length_take]; rfl)) ?_
               with_reducible refine (impl_AddClue.calls kj74 _ _ t242 t245 t246 t247 t248 t251 _ ?side1 ?side2 A124.out).mono ?_
               (case side1 => repeat (first | exact (Kd.R_reads' HO244.out).2.2 | (with_reducible refine Kd.C_alloc ?_ _) | (with_reducible refine Kd.C_drewN ?_ _) | (with_reducible refine Kd.C_drew ?_)))
               (case side2 => exact (Kd.R_reads' HO244.out).2.1)
               rintro e w138 ⟨v249, rfl, ho0, hb⟩
               refine ⟨_, rfl, ?_⟩
               have n0_ := Aside0.mk (Kd.R_elder' (rk HO_219000.out) (Kd.R_base ho0) hb)
               have n1_ := Aside0.mk (Kd.R_elder' (rk HO_223000.out) (Kd.R_base ho0) hb)
               have n2_ := Aside0.mk (Kd.R_elder' (rk HO_231000.out) (Kd.R_base ho0) hb)
               have n3_ := Aside0.mk (Kd.R_elder' (rk HO244.out) (Kd.R_base ho0) hb)
               have n4_ := Aside0.mk (Kd.R_lower (Kd.R_new' (Kd.R_new' (Kd.R_new' (Kd.R_new' ho0 (Kd.R_lt (rk HO_219000.out))) (Kd.R_lt (rk HO_223000.out))) (Kd.R_lt (rk HO_231000.out))) (Kd.R_lt (rk HO244.out))) (below_size (hB HB.out)))
               have n5_ := Aside0.mk (blk_below (g := gb205) (o := .cells #[.slice A0_0 l0_0.length c0_0] 24 (0, 0)) (bk BK205.out) hb)
               have n6_ := Aside0.mk (blk_below (g := gb206) (o := .cells #[.int .i64 a1_0, .int .i64 a1_1, .int .i64 a1_2] 34 (0, 0)) (bk BK206.out) hb)
               have n7_ := Aside0.mk (blk_below (g := gb218) (o := .cells #[.slice Ao29 t214.length co29] 29 (0, 0)) (bk BK218.out) hb)
               have n8_ := Aside0.mk (blk_below (g := gb222) (o := .cells #[.slice Ao35 t237.length co35] 29 (0, 0)) (bk BK222.out) hb)
               have n9_ := Aside0.mk (blk_below (g := gb230) (o := .cells #[.slice Ao46 t226.length co46] 29 (0, 0)) (bk BK230.out) hb)
               have n10_ := Aside0.mk (below_step (hB HB.out) hb)
               clear HO_219000
               clear HO_223000
               clear HO_231000
               clear HO244
               clear BK205
               clear BK206
               clear BK218
               clear BK222
               clear BK230
               clear HB
               have HO_219000 := n0_
               have HO_223000 := n1_
               have HO_231000 := n2_
               have HO244 := n3_
               have HO250 := n4_
               have BK205 := n5_
               have BK206 := n6_
               have BK218 := n7_
               have BK222 := n8_
               have BK230 := n9_
               have HB := n10_
               clear n0_ n1_ n2_ n3_ n4_ n5_ n6_ n7_ n8_ n9_ n10_
               (try clear hb)
               (try clear hb2)
               (try clear hk)
               (try clear hi)
               (try clear ho0)
               refine hK.out _ _ ⟨(blk_cell BK205.out 0).trans rfl, (blk_cell BK206.out 0).trans rfl, (blk_cell BK206.out 1).trans rfl, (blk_cell BK206.out 2).trans rfl⟩ (fun hHeld => ?_)
               clear hK K
               refine norm_ (a' := ?_) ?_ ?_
               rotate_left
               ·show Act.put _ (some 84) _ = _
                simp only [Act.put, List.setIfInBounds_toArray, List.set_cons_zero, List.set_cons_succ, i64_w, i32_w]
                rfl
               refine pure_ (i := 5) (N := some 79) (v := ?_) (a' := ?_) #[true, true, true, true, true, true, false, false, false, false, false] rfl rfl (any_of HT_.out (by kernel_rfl)) (fun _ _ _ h => h) (Or.inl ⟨by rfl, ?_⟩) ?_ ?_
               rotate_left
               ·intro w'
                go_simp
                with_reducible rfl
               rotate_left
               ·simp only [Act.put, List.setIfInBounds_toArray, List.set_cons_zero, List.set_cons_succ, i64_w, i32_w]
                rfl
               refine pure_ (i := 6) (N := some 85) (v := ?_) (a' := ?_) #[true, true, true, true, true, true, true, false, false, false, false] rfl rfl (any_of HT_.out (by kernel_rfl)) (fun _ _ _ h => h) (Or.inl ⟨by rfl, ?_⟩) ?_ ?_
               rotate_left
               ·intro w'
                go_simp
                with_reducible rfl
               rotate_left
               ·simp only [Act.put, List.setIfInBounds_toArray, List.set_cons_zero, List.set_cons_succ, i64_w, i32_w]
                rfl
               refine pure_ (i := 7) (N := some 86) (v := ?_) (a' := ?_) #[true, true, true, true, true, true, true, true, false, false, false] rfl rfl (any_of HT_.out (by kernel_rfl)) (fun _ _ _ h => h) (Or.inl ⟨by rfl, ?_⟩) ?_ ?_
               rotate_left
               ·intro w'
                go_simp
                with_reducible rfl
               rotate_left
               ·simp only [Act.put, List.setIfInBounds_toArray, List.set_cons_zero, List.set_cons_succ, i64_w, i32_w]
                rfl
               refine one_ (i := 8) (N := some 14) #[true, true, true, true, true, true, true, true, true, false, false] rfl rfl (one_of HT_.out (by kernel_rfl)) (by decide) (fun K hK => ?_)
               refine box_step ?hg (N := 14) ?hd (cs := #[.slice none 0 0]) (t := 29) ?hr ?_; (case hd => rfl); (case hg => rfl); (case hr => first | (go_simp; done) | (go_simp; rfl))
               intro gb252 hg w139 hbox hb
               have n0_ := Aside0.mk (Kd.R_below (rk HO_219000.out) hb)
               have n1_ := Aside0.mk (Kd.R_below (rk HO_223000.out) hb)
               have n2_ := Aside0.mk (Kd.R_below (rk HO_231000.out) hb)
               have n3_ := Aside0.mk (Kd.R_below (rk HO244.out) hb)
               have n4_ := Aside0.mk (Kd.R_below (rk HO250.out) hb)
               have n5_ := Aside0.mk (blk_below (g := gb205) (o := .cells #[.slice A0_0 l0_0.length c0_0] 24 (0, 0)) (bk BK205.out) hb)
               have n6_ := Aside0.mk (blk_below (g := gb206) (o := .cells #[.int .i64 a1_0, .int .i64 a1_1, .int .i64 a1_2] 34 (0, 0)) (bk BK206.out) hb)
               have n7_ := Aside0.mk (blk_below (g := gb218) (o := .cells #[.slice Ao29 t214.length co29] 29 (0, 0)) (bk BK218.out) hb)
               have n8_ := Aside0.mk (blk_below (g := gb222) (o := .cells #[.slice Ao35 t237.length co35] 29 (0, 0)) (bk BK222.out) hb)
               have n9_ := Aside0.mk (blk_below (g := gb230) (o := .cells #[.slice Ao46 t226.length co46] 29 (0, 0)) (bk BK230.out) hb)
               have n10_ := Aside0.mk (below_step (hB HB.out) hb)
               have n11_ := Aside0.mk (hbox)
               have n12_ := Aside0.mk ((by rw [hg]; exact (below_size (hB HB.out)) : w.heap.size ≤ gb252))
               have n13_ := Aside0.mk ((by rw [hg]; exact (below_size (hB HB.out)) : w.heap.size ≤ gb252))
               have n14_ := Aside0.mk ((by rw [hg]; exact Nat.ne_of_lt (blk_lt (g := gb205) (o := .cells #[.slice A0_0 l0_0.length c0_0] 24 (0, 0)) (bk BK205.out)) : gb205 ≠ gb252))
               have n15_ := Aside0.mk ((by rw [hg]; exact Nat.ne_of_gt (blk_lt (g := gb205) (o := .cells #[.slice A0_0 l0_0.length c0_0] 24 (0, 0)) (bk BK205.out)) : gb252 ≠ gb205))
               have n16_ := Aside0.mk ((by rw [hg]; exact Nat.ne_of_lt (blk_lt (g := gb206) (o := .cells #[.int .i64 a1_0, .int .i64 a1_1, .int .i64 a1_2] 34 (0, 0)) (bk BK206.out)) : gb206 ≠ gb252))
               have n17_ := Aside0.mk ((by rw [hg]; exact Nat.ne_of_gt (blk_lt (g := gb206) (o := .cells #[.int .i64 a1_0, .int .i64 a1_1, .int .i64 a1_2] 34 (0, 0)) (bk BK206.out)) : gb252 ≠ gb206))
               have n18_ := Aside0.mk ((by rw [hg]; exact Nat.ne_of_lt (blk_lt (g := gb218) (o := .cells #[.slice Ao29 t214.length co29] 29 (0, 0)) (bk BK218.out)) : gb218 ≠ gb252))
               have n19_ := Aside0.mk ((by rw [hg]; exact Nat.ne_of_gt (blk_lt (g := gb218) (o := .cells #[.slice Ao29 t214.length co29] 29 (0, 0)) (bk BK218.out)) : gb252 ≠ gb218))
               have n20_ := Aside0.mk ((by rw [hg]; exact Nat.ne_of_lt (blk_lt (g := gb222) (o := .cells #[.slice Ao35 t237.length co35] 29 (0, 0)) (bk BK222.out)) : gb222 ≠ gb252))
               have n21_ := Aside0.mk ((by rw [hg]; exact Nat.ne_of_gt (blk_lt (g := gb222) (o := .cells #[.slice Ao35 t237.length co35] 29 (0, 0)) (bk BK222.out)) : gb252 ≠ gb222))
               have n22_ := Aside0.mk ((by rw [hg]; exact Nat.ne_of_lt (blk_lt (g := gb230) (o := .cells #[.slice Ao46 t226.length co46] 29 (0, 0)) (bk BK230.out)) : gb230 ≠ gb252))
               have n23_ := Aside0.mk ((by rw [hg]; exact Nat.ne_of_gt (blk_lt (g := gb230) (o := .cells #[.slice Ao46 t226.length co46] 29 (0, 0)) (bk BK230.out)) : gb252 ≠ gb230))
               clear HO_219000
               clear HO_223000
               clear HO_231000
               clear HO244
               clear HO250
               clear BK205
               clear BK206
               clear BK218
               clear BK222
               clear BK230
               clear HB
               have HO_219000 := n0_
               have HO_223000 := n1_
               have HO_231000 := n2_
               have HO244 := n3_
               have HO250 := n4_
               have BK205 := n5_
               have BK206 := n6_
               have BK218 := n7_
               have BK222 := n8_
               have BK230 := n9_
               have HB := n10_
               have BK252 := n11_
               have GW252 := n12_
               have GE252 := n13_
               have NB205_252 := n14_
               have NB252_205 := n15_
               have NB206_252 := n16_
               have NB252_206 := n17_
               have NB218_252 := n18_
               have NB252_218 := n19_
               have NB222_252 := n20_
               have NB252_222 := n21_
               have NB230_252 := n22_
               have NB252_230 := n23_
               clear n0_ n1_ n2_ n3_ n4_ n5_ n6_ n7_ n8_ n9_ n10_ n11_ n12_ n13_ n14_ n15_ n16_ n17_ n18_ n19_ n20_ n21_ n22_ n23_
               clear hb hbox hg
               refine hK.out _ _ ⟨(blk_cell BK205.out 0).trans rfl, (blk_cell BK206.out 0).trans rfl, (blk_cell BK206.out 1).trans rfl, (blk_cell BK206.out 2).trans rfl⟩ (fun hHeld => ?_)
               clear hK K
               refine norm_ (a' := ?_) ?_ ?_
               rotate_left
               ·show Act.put _ (some 14) _ = _
                simp only [Act.put, List.setIfInBounds_toArray, List.set_cons_zero, List.set_cons_succ, i64_w, i32_w]
                rfl
               exact norm_ (by simp only [putAll, Act.put, List.setIfInBounds_toArray, List.set_cons_zero, List.set_cons_succ]) (hCont (.slice Ao137 t242.length co137, v249, gb252) _ ⟨hHeld, (rk (Kd.R_mono HO244.out (fun _ hk => ⟨hk.2, ⟨hk.1.1.1.2, ⟨hk.1.1.2, hk.1.2⟩⟩⟩))), (rk (Kd.R_mono HO250.out (fun _ hk => ⟨hk.2, ⟨hk.1.1.1.2, ⟨hk.1.1.2, hk.1.2⟩⟩⟩))), (rk (Kd.R_mono HO_219000.out (fun _ hk => ⟨hk.1.2, ⟨hk.2, ⟨hk.1.1.1, hk.1.1.2⟩⟩⟩))), (rk (Kd.R_mono HO_223000.out (fun _ hk => ⟨hk.1.2, ⟨hk.2, ⟨hk.1.1.1, hk.1.1.2⟩⟩⟩))), (rk (Kd.R_mono HO_231000.out (fun _ hk => ⟨hk.1.2, ⟨hk.2, ⟨hk.1.1.1, hk.1.1.2⟩⟩⟩))), (bk BK205.out), (bk BK206.out), (bk BK218.out), (bk BK222.out), (bk BK230.out), (bk BK252.out), GW252.out, GE252.out, NB205_252.out, NB252_205.out, NB206_252.out, NB252_206.out, NB218_252.out, NB252_218.out, NB222_252.out, NB252_222.out, NB230_252.out, NB252_230.out, (hB HB.out)⟩)
              ·skip
               refine box_step ?hg (N := 14) ?hd (cs := #[.slice none 0 0]) (t := 29) ?hr ?_; (case hd => rfl); (case hg => rfl); (case hr => first | (go_simp; done) | (go_simp; rfl))
               intro gb252 hg w137 hbox hb
               have n0_ := Aside0.mk (Kd.R_below (rk HO_219000.out) hb)
               have n1_ := Aside0.mk (Kd.R_below (rk HO_223000.out) hb)
               have n2_ := Aside0.mk (Kd.R_below (rk HO_231000.out) hb)
               have n3_ := Aside0.mk (Kd.R_below (rk HO244.out) hb)
               have n4_ := Aside0.mk (blk_below (g := gb205) (o := .cells #[.slice A0_0 l0_0.length c0_0] 24 (0, 0)) (bk BK205.out) hb)
               have n5_ := Aside0.mk (blk_below (g := gb206) (o := .cells #[.int .i64 a1_0, .int .i64 a1_1, .int .i64 a1_2] 34 (0, 0)) (bk BK206.out) hb)
               have n6_ := Aside0.mk (blk_below (g := gb218) (o := .cells #[.slice Ao29 t214.length co29] 29 (0, 0)) (bk BK218.out) hb)
               have n7_ := Aside0.mk (blk_below (g := gb222) (o := .cells #[.slice Ao35 t237.length co35] 29 (0, 0)) (bk BK222.out) hb)
               have n8_ := Aside0.mk (blk_below (g := gb230) (o := .cells #[.slice Ao46 t226.length co46] 29 (0, 0)) (bk BK230.out) hb)
               have n9_ := Aside0.mk (below_step (hB HB.out) hb)
               have n10_ := Aside0.mk (hbox)
               have n11_ := Aside0.mk ((by rw [hg]; exact (below_size (hB HB.out)) : w.heap.size ≤ gb252))
               have n12_ := Aside0.mk ((by rw [hg]; exact (below_size (hB HB.out)) : w.heap.size ≤ gb252))
               have n13_ := Aside0.mk ((by rw [hg]; exact Nat.ne_of_lt (blk_lt (g := gb205) (o := .cells #[.slice A0_0 l0_0.length c0_0] 24 (0, 0)) (bk BK205.out)) : gb205 ≠ gb252))
               have n14_ := Aside0.mk ((by rw [hg]; exact Nat.ne_of_gt (blk_lt (g := gb205) (o := .cells #[.slice A0_0 l0_0.length c0_0] 24 (0, 0)) (bk BK205.out)) : gb252 ≠ gb205))
               have n15_ := Aside0.mk ((by rw [hg]; exact Nat.ne_of_lt (blk_lt (g := gb206) (o := .cells #[.int .i64 a1_0, .int .i64 a1_1, .int .i64 a1_2] 34 (0, 0)) (bk BK206.out)) : gb206 ≠ gb252))
               have n16_ := Aside0.mk ((by rw [hg]; exact Nat.ne_of_gt (blk_lt (g := gb206) (o := .cells #[.int .i64 a1_0, .int .i64 a1_1, .int .i64 a1_2] 34 (0, 0)) (bk BK206.out)) : gb252 ≠ gb206))
               have n17_ := Aside0.mk ((by rw [hg]; exact Nat.ne_of_lt (blk_lt (g := gb218) (o := .cells #[.slice Ao29 t214.length co29] 29 (0, 0)) (bk BK218.out)) : gb218 ≠ gb252))
               have n18_ := Aside0.mk ((by rw [hg]; exact Nat.ne_of_gt (blk_lt (g := gb218) (o := .cells #[.slice Ao29 t214.length co29] 29 (0, 0)) (bk BK218.out)) : gb252 ≠ gb218))
               have n19_ := Aside0.mk ((by rw [hg]; exact Nat.ne_of_lt (blk_lt (g := gb222) (o := .cells #[.slice Ao35 t237.length co35] 29 (0, 0)) (bk BK222.out)) : gb222 ≠ gb252))
               have n20_ := Aside0.mk ((by rw [hg]; exact Nat.ne_of_gt (blk_lt (g := gb222) (o := .cells #[.slice Ao35 t237.length co35] 29 (0, 0)) (bk BK222.out)) : gb252 ≠ gb222))
               have n21_ := Aside0.mk ((by rw [hg]; exact Nat.ne_of_lt (blk_lt (g := gb230) (o := .cells #[.slice Ao46 t226.length co46] 29 (0, 0)) (bk BK230.out)) : gb230 ≠ gb252))
               have n22_ := Aside0.mk ((by rw [hg]; exact Nat.ne_of_gt (blk_lt (g := gb230) (o := .cells #[.slice Ao46 t226.length co46] 29 (0, 0)) (bk BK230.out)) : gb252 ≠ gb230))
               clear HO_219000
               clear HO_223000
               clear HO_231000
               clear HO244
               clear BK205
               clear BK206
               clear BK218
               clear BK222
               clear BK230
               clear HB
               have HO_219000 := n0_
               have HO_223000 := n1_
               have HO_231000 := n2_
               have HO244 := n3_
               have BK205 := n4_
               have BK206 := n5_
               have BK218 := n6_
               have BK222 := n7_
               have BK230 := n8_
               have HB := n9_
               have BK252 := n10_
               have GW252 := n11_
               have GE252 := n12_
               have NB205_252 := n13_
               have NB252_205 := n14_
               have NB206_252 := n15_
               have NB252_206 := n16_
               have NB218_252 := n17_
               have NB252_218 := n18_
               have NB222_252 := n19_
               have NB252_222 := n20_
               have NB230_252 := n21_
               have NB252_230 := n22_
               clear n0_ n1_ n2_ n3_ n4_ n5_ n6_ n7_ n8_ n9_ n10_ n11_ n12_ n13_ n14_ n15_ n16_ n17_ n18_ n19_ n20_ n21_ n22_
               clear hb hbox hg
               obtain ⟨Ao138, co138, eo138⟩ := Kd.R_slice HO244.out
               (first | subst eo138 | (injection eo138 with f1_ f2_ f3_; have f4_ := f1_.symm; have f5_ := f3_.symm; clear f1_ f2_ f3_; subst f4_; subst f5_))
               refine hK.out _ _ ⟨(blk_cell BK205.out 0).trans rfl, (blk_cell BK206.out 0).trans rfl, (blk_cell BK206.out 1).trans rfl, (blk_cell BK206.out 2).trans rfl⟩ (fun hHeld => ?_)
               clear hK K
               refine norm_ (a' := ?_) ?_ ?_
               rotate_left
               ·show Act.put _ (some 14) _ = _
                simp only [Act.put, List.setIfInBounds_toArray, List.set_cons_zero, List.set_cons_succ, i64_w, i32_w]
                rfl
               refine one_ (i := 4) (N := some 84) #[true, true, true, true, true, false, false, false, true, false, false] rfl rfl (one_of HT_.out (by kernel_rfl)) (by decide) (fun K hK => ?_)
               refine goes_ Try.func25 (by kernel_rfl) rfl #[.agg #[.slice Ao138 t242.length co138], .agg #[.int .i64 t245, .int .i64 t246, .int .i64 t247]] (by rfl) rfl rfl (by (try simp only [List.map_toArray, List.map_cons, List.map_nil]); first | done | rfl | (simp only [List.length_drop, List.length_take]; rfl)) ?_
               with_reducible refine (impl_AddClue.calls kj74 _ _ t242 t245 t246 t247 t248 t251 _ ?side1 ?side2 A124.out).mono ?_
               (case side1 => repeat (first | exact (Kd.R_reads' HO244.out).2.2 | (with_reducible refine Kd.C_alloc ?_ _) | (with_reducible refine Kd.C_drewN ?_ _) | (with_reducible refine Kd.C_drew ?_)))
               (case side2 => exact (Kd.R_reads' HO244.out).2.1)
               rintro e w139 ⟨v249, rfl, ho0, hb⟩
               refine ⟨_, rfl, ?_⟩
               have n0_ := Aside0.mk (Kd.R_elder' (rk HO_219000.out) (Kd.R_base ho0) hb)
               have n1_ := Aside0.mk (Kd.R_elder' (rk HO_223000.out) (Kd.R_base ho0) hb)
               have n2_ := Aside0.mk (Kd.R_elder' (rk HO_231000.out) (Kd.R_base ho0) hb)
               have n3_ := Aside0.mk (Kd.R_elder' (rk HO244.out) (Kd.R_base ho0) hb)
               have n4_ := Aside0.mk (Kd.R_lower (Kd.R_new' (Kd.R_new' (Kd.R_new' (Kd.R_new' ho0 (Kd.R_lt (rk HO_219000.out))) (Kd.R_lt (rk HO_223000.out))) (Kd.R_lt (rk HO_231000.out))) (Kd.R_lt (rk HO244.out))) (below_size (hB HB.out)))
               have n5_ := Aside0.mk (blk_below (g := gb205) (o := .cells #[.slice A0_0 l0_0.length c0_0] 24 (0, 0)) (bk BK205.out) hb)
               have n6_ := Aside0.mk (blk_below (g := gb206) (o := .cells #[.int .i64 a1_0, .int .i64 a1_1, .int .i64 a1_2] 34 (0, 0)) (bk BK206.out) hb)
               have n7_ := Aside0.mk (blk_below (g := gb218) (o := .cells #[.slice Ao29 t214.length co29] 29 (0, 0)) (bk BK218.out) hb)
               have n8_ := Aside0.mk (blk_below (g := gb222) (o := .cells #[.slice Ao35 t237.length co35] 29 (0, 0)) (bk BK222.out) hb)
               have n9_ := Aside0.mk (blk_below (g := gb230) (o := .cells #[.slice Ao46 t226.length co46] 29 (0, 0)) (bk BK230.out) hb)
               have n10_ := Aside0.mk (blk_below (g := gb252) (o := .cells #[.slice none 0 0] 29 (0, 0)) (bk BK252.out) hb)
               have n11_ := Aside0.mk (below_step (hB HB.out) hb)
               clear HO_219000
               clear HO_223000
               clear HO_231000
               clear HO244
               clear BK205
               clear BK206
               clear BK218
               clear BK222
               clear BK230
               clear BK252
               clear HB
               have HO_219000 := n0_
               have HO_223000 := n1_
               have HO_231000 := n2_
               have HO244 := n3_
               have HO250 := n4_
               have BK205 := n5_
               have BK206 := n6_
               have BK218 := n7_
               have BK222 := n8_
               have BK230 := n9_
               have BK252 := n10_
               have HB := n11_
               clear n0_ n1_ n2_ n3_ n4_ n5_ n6_ n7_ n8_ n9_ n10_ n11_
               (try clear hb)
               (try clear hb2)
               (try clear hk)
               (try clear hi)
               (try clear ho0)
               refine hK.out _ _ ⟨(blk_cell BK205.out 0).trans rfl, (blk_cell BK206.out 0).trans rfl, (blk_cell BK206.out 1).trans rfl, (blk_cell BK206.out 2).trans rfl⟩ (fun hHeld => ?_)
               clear hK K
               refine norm_ (a' := ?_) ?_ ?_
               rotate_left
               ·show Act.put _ (some 84) _ = _
                simp only [Act.put, List.setIfInBounds_toArray, List.set_cons_zero, List.set_cons_succ, i64_w, i32_w]
                rfl
               refine pure_ (i := 5) (N := some 79) (v := ?_) (a' := ?_) #[true, true, true, true, true, true, false, false, true, false, false] rfl rfl (any_of HT_.out (by kernel_rfl)) (fun _ _ _ h => h) (Or.inl ⟨by rfl, ?_⟩) ?_ ?_
               rotate_left
               ·intro w'
                go_simp
                with_reducible rfl
               rotate_left
               ·simp only [Act.put, List.setIfInBounds_toArray, List.set_cons_zero, List.set_cons_succ, i64_w, i32_w]
                rfl
               refine pure_ (i := 6) (N := some 85) (v := ?_) (a' := ?_) #[true, true, true, true, true, true, true, false, true, false, false] rfl rfl (any_of HT_.out (by kernel_rfl)) (fun _ _ _ h => h) (Or.inl ⟨by rfl, ?_⟩) ?_ ?_
               rotate_left
               ·intro w'
                go_simp
                with_reducible rfl
               rotate_left
               ·simp only [Act.put, List.setIfInBounds_toArray, List.set_cons_zero, List.set_cons_succ, i64_w, i32_w]
                rfl
               refine pure_ (i := 7) (N := some 86) (v := ?_) (a' := ?_) #[true, true, true, true, true, true, true, true, true, false, false] rfl rfl (any_of HT_.out (by kernel_rfl)) (fun _ _ _ h => h) (Or.inl ⟨by rfl, ?_⟩) ?_ ?_
               rotate_left
               ·intro w'
                go_simp
                with_reducible rfl
               rotate_left
               ·simp only [Act.put, List.setIfInBounds_toArray, List.set_cons_zero, List.set_cons_succ, i64_w, i32_w]
                rfl
               exact norm_ (by simp only [putAll, Act.put, List.setIfInBounds_toArray, List.set_cons_zero, List.set_cons_succ]) (hCont (.slice Ao138 t242.length co138, v249, gb252) _ ⟨hHeld, (rk (Kd.R_mono HO244.out (fun _ hk => ⟨hk.2, ⟨hk.1.1.1.2, ⟨hk.1.1.2, hk.1.2⟩⟩⟩))), (rk (Kd.R_mono HO250.out (fun _ hk => ⟨hk.2, ⟨hk.1.1.1.2, ⟨hk.1.1.2, hk.1.2⟩⟩⟩))), (rk (Kd.R_mono HO_219000.out (fun _ hk => ⟨hk.1.2, ⟨hk.2, ⟨hk.1.1.1, hk.1.1.2⟩⟩⟩))), (rk (Kd.R_mono HO_223000.out (fun _ hk => ⟨hk.1.2, ⟨hk.2, ⟨hk.1.1.1, hk.1.1.2⟩⟩⟩))), (rk (Kd.R_mono HO_231000.out (fun _ hk => ⟨hk.1.2, ⟨hk.2, ⟨hk.1.1.1, hk.1.1.2⟩⟩⟩))), (bk BK205.out), (bk BK206.out), (bk BK218.out), (bk BK222.out), (bk BK230.out), (bk BK252.out), GW252.out, GE252.out, NB205_252.out, NB252_205.out, NB206_252.out, NB252_206.out, NB218_252.out, NB252_218.out, NB222_252.out, NB252_222.out, NB230_252.out, NB252_230.out, (hB HB.out)⟩)
             ·skip
              refine box_step ?hg (N := 14) ?hd (cs := #[.slice none 0 0]) (t := 29) ?hr ?_; (case hd => rfl); (case hg => rfl); (case hr => first | (go_simp; done) | (go_simp; rfl))
              intro gb252 hg w136 hbox hb
              have n0_ := Aside0.mk (Kd.R_below (rk HO_219000.out) hb)
              have n1_ := Aside0.mk (Kd.R_below (rk HO_223000.out) hb)
              have n2_ := Aside0.mk (Kd.R_below (rk HO_231000.out) hb)
              have n3_ := Aside0.mk (Kd.R_below (rk HO244.out) hb)
              have n4_ := Aside0.mk (blk_below (g := gb205) (o := .cells #[.slice A0_0 l0_0.length c0_0] 24 (0, 0)) (bk BK205.out) hb)
              have n5_ := Aside0.mk (blk_below (g := gb206) (o := .cells #[.int .i64 a1_0, .int .i64 a1_1, .int .i64 a1_2] 34 (0, 0)) (bk BK206.out) hb)
              have n6_ := Aside0.mk (blk_below (g := gb218) (o := .cells #[.slice Ao29 t214.length co29] 29 (0, 0)) (bk BK218.out) hb)
              have n7_ := Aside0.mk (blk_below (g := gb222) (o := .cells #[.slice Ao35 t237.length co35] 29 (0, 0)) (bk BK222.out) hb)
              have n8_ := Aside0.mk (blk_below (g := gb230) (o := .cells #[.slice Ao46 t226.length co46] 29 (0, 0)) (bk BK230.out) hb)
              have n9_ := Aside0.mk (below_step (hB HB.out) hb)
              have n10_ := Aside0.mk (hbox)
              have n11_ := Aside0.mk ((by rw [hg]; exact (below_size (hB HB.out)) : w.heap.size ≤ gb252))
              have n12_ := Aside0.mk ((by rw [hg]; exact (below_size (hB HB.out)) : w.heap.size ≤ gb252))
              have n13_ := Aside0.mk ((by rw [hg]; exact Nat.ne_of_lt (blk_lt (g := gb205) (o := .cells #[.slice A0_0 l0_0.length c0_0] 24 (0, 0)) (bk BK205.out)) : gb205 ≠ gb252))
              have n14_ := Aside0.mk ((by rw [hg]; exact Nat.ne_of_gt (blk_lt (g := gb205) (o := .cells #[.slice A0_0 l0_0.length c0_0] 24 (0, 0)) (bk BK205.out)) : gb252 ≠ gb205))
              have n15_ := Aside0.mk ((by rw [hg]; exact Nat.ne_of_lt (blk_lt (g := gb206) (o := .cells #[.int .i64 a1_0, .int .i64 a1_1, .int .i64 a1_2] 34 (0, 0)) (bk BK206.out)) : gb206 ≠ gb252))
              have n16_ := Aside0.mk ((by rw [hg]; exact Nat.ne_of_gt (blk_lt (g := gb206) (o := .cells #[.int .i64 a1_0, .int .i64 a1_1, .int .i64 a1_2] 34 (0, 0)) (bk BK206.out)) : gb252 ≠ gb206))
              have n17_ := Aside0.mk ((by rw [hg]; exact Nat.ne_of_lt (blk_lt (g := gb218) (o := .cells #[.slice Ao29 t214.length co29] 29 (0, 0)) (bk BK218.out)) : gb218 ≠ gb252))
              have n18_ := Aside0.mk ((by rw [hg]; exact Nat.ne_of_gt (blk_lt (g := gb218) (o := .cells #[.slice Ao29 t214.length co29] 29 (0, 0)) (bk BK218.out)) : gb252 ≠ gb218))
              have n19_ := Aside0.mk ((by rw [hg]; exact Nat.ne_of_lt (blk_lt (g := gb222) (o := .cells #[.slice Ao35 t237.length co35] 29 (0, 0)) (bk BK222.out)) : gb222 ≠ gb252))
              have n20_ := Aside0.mk ((by rw [hg]; exact Nat.ne_of_gt (blk_lt (g := gb222) (o := .cells #[.slice Ao35 t237.length co35] 29 (0, 0)) (bk BK222.out)) : gb252 ≠ gb222))
              have n21_ := Aside0.mk ((by rw [hg]; exact Nat.ne_of_lt (blk_lt (g := gb230) (o := .cells #[.slice Ao46 t226.length co46] 29 (0, 0)) (bk BK230.out)) : gb230 ≠ gb252))
              have n22_ := Aside0.mk ((by rw [hg]; exact Nat.ne_of_gt (blk_lt (g := gb230) (o := .cells #[.slice Ao46 t226.length co46] 29 (0, 0)) (bk BK230.out)) : gb252 ≠ gb230))
              clear HO_219000
              clear HO_223000
              clear HO_231000
              clear HO244
              clear BK205
              clear BK206
              clear BK218
              clear BK222
              clear BK230
              clear HB
              have HO_219000 := n0_
              have HO_223000 := n1_
              have HO_231000 := n2_
              have HO244 := n3_
              have BK205 := n4_
              have BK206 := n5_
              have BK218 := n6_
              have BK222 := n7_
              have BK230 := n8_
              have HB := n9_
              have BK252 := n10_
              have GW252 := n11_
              have GE252 := n12_
              have NB205_252 := n13_
              have NB252_205 := n14_
              have NB206_252 := n15_
              have NB252_206 := n16_
              have NB218_252 := n17_
              have NB252_218 := n18_
              have NB222_252 := n19_
              have NB252_222 := n20_
              have NB230_252 := n21_
              have NB252_230 := n22_
              clear n0_ n1_ n2_ n3_ n4_ n5_ n6_ n7_ n8_ n9_ n10_ n11_ n12_ n13_ n14_ n15_ n16_ n17_ n18_ n19_ n20_ n21_ n22_
              clear hb hbox hg
              refine hK.out _ _ ⟨(blk_cell BK205.out 0).trans rfl, (blk_cell BK206.out 0).trans rfl, (blk_cell BK206.out 1).trans rfl, (blk_cell BK206.out 2).trans rfl⟩ (fun hHeld => ?_)
              clear hK K
              refine norm_ (a' := ?_) ?_ ?_
              rotate_left
              ·show Act.put _ (some 14) _ = _
               simp only [Act.put, List.setIfInBounds_toArray, List.set_cons_zero, List.set_cons_succ, i64_w, i32_w]
               rfl
              refine one_ (i := 3) (N := some 83) #[true, true, true, true, false, false, false, false, true, false, false] rfl rfl (one_of HT_.out (by kernel_rfl)) (by decide) (fun K hK => ?_)
              refine goes_ Try.func21 (by kernel_rfl) rfl #[.agg #[.int .i64 a1_0, .int .i64 a1_1, .int .i64 a1_2]] (by rfl) rfl rfl (by (try simp only [List.map_toArray, List.map_cons, List.map_nil]); first | done | rfl | (simp only [List.length_drop, List.length_take]; rfl)) ?_
              with_reducible refine (laws_toClue.calls a1_0 a1_1 a1_2 t245 t246 t247 _ A123.out).mono ?_
              rintro e w137 ⟨rfl, hb⟩
              refine ⟨_, rfl, ?_⟩
              have n0_ := Aside0.mk (Kd.R_below (rk HO_219000.out) hb)
              have n1_ := Aside0.mk (Kd.R_below (rk HO_223000.out) hb)
              have n2_ := Aside0.mk (Kd.R_below (rk HO_231000.out) hb)
              have n3_ := Aside0.mk (Kd.R_below (rk HO244.out) hb)
              have n4_ := Aside0.mk (blk_below (g := gb205) (o := .cells #[.slice A0_0 l0_0.length c0_0] 24 (0, 0)) (bk BK205.out) hb)
              have n5_ := Aside0.mk (blk_below (g := gb206) (o := .cells #[.int .i64 a1_0, .int .i64 a1_1, .int .i64 a1_2] 34 (0, 0)) (bk BK206.out) hb)
              have n6_ := Aside0.mk (blk_below (g := gb218) (o := .cells #[.slice Ao29 t214.length co29] 29 (0, 0)) (bk BK218.out) hb)
              have n7_ := Aside0.mk (blk_below (g := gb222) (o := .cells #[.slice Ao35 t237.length co35] 29 (0, 0)) (bk BK222.out) hb)
              have n8_ := Aside0.mk (blk_below (g := gb230) (o := .cells #[.slice Ao46 t226.length co46] 29 (0, 0)) (bk BK230.out) hb)
              have n9_ := Aside0.mk (blk_below (g := gb252) (o := .cells #[.slice none 0 0] 29 (0, 0)) (bk BK252.out) hb)
              have n10_ := Aside0.mk (below_step (hB HB.out) hb)
              clear HO_219000
              clear HO_223000
              clear HO_231000
              clear HO244
              clear BK205
              clear BK206
              clear BK218
              clear BK222
              clear BK230
              clear BK252
              clear HB
              have HO_219000 := n0_
              have HO_223000 := n1_
              have HO_231000 := n2_
              have HO244 := n3_
              have BK205 := n4_
              have BK206 := n5_
              have BK218 := n6_
              have BK222 := n7_
              have BK230 := n8_
              have BK252 := n9_
              have HB := n10_
              clear n0_ n1_ n2_ n3_ n4_ n5_ n6_ n7_ n8_ n9_ n10_
              (try clear hb)
              (try clear hb2)
              (try clear hk)
              (try clear hi)
              obtain ⟨Ao138, co138, eo138⟩ := Kd.R_slice HO244.out
              (first | subst eo138 | (injection eo138 with f1_ f2_ f3_; have f4_ := f1_.symm; have f5_ := f3_.symm; clear f1_ f2_ f3_; subst f4_; subst f5_))
              refine hK.out _ _ ⟨(blk_cell BK205.out 0).trans rfl, (blk_cell BK206.out 0).trans rfl, (blk_cell BK206.out 1).trans rfl, (blk_cell BK206.out 2).trans rfl⟩ (fun hHeld => ?_)
              clear hK K
              refine norm_ (a' := ?_) ?_ ?_
              rotate_left
              ·show Act.put _ (some 83) _ = _
               simp only [Act.put, List.setIfInBounds_toArray, List.set_cons_zero, List.set_cons_succ, i64_w, i32_w]
               rfl
              refine one_ (i := 4) (N := some 84) #[true, true, true, true, true, false, false, false, true, false, false] rfl rfl (one_of HT_.out (by kernel_rfl)) (by decide) (fun K hK => ?_)
              refine goes_ Try.func25 (by kernel_rfl) rfl #[.agg #[.slice Ao138 t242.length co138], .agg #[.int .i64 t245, .int .i64 t246, .int .i64 t247]] (by rfl) rfl rfl (by (try simp only [List.map_toArray, List.map_cons, List.map_nil]); first | done | rfl | (simp only [List.length_drop, List.length_take]; rfl)) ?_
              with_reducible refine (impl_AddClue.calls kj74 _ _ t242 t245 t246 t247 t248 t251 _ ?side1 ?side2 A124.out).mono ?_
              (case side1 => repeat (first | exact (Kd.R_reads' HO244.out).2.2 | (with_reducible refine Kd.C_alloc ?_ _) | (with_reducible refine Kd.C_drewN ?_ _) | (with_reducible refine Kd.C_drew ?_)))
              (case side2 => exact (Kd.R_reads' HO244.out).2.1)
              rintro e w139 ⟨v249, rfl, ho0, hb⟩
              refine ⟨_, rfl, ?_⟩
              have n0_ := Aside0.mk (Kd.R_elder' (rk HO_219000.out) (Kd.R_base ho0) hb)
              have n1_ := Aside0.mk (Kd.R_elder' (rk HO_223000.out) (Kd.R_base ho0) hb)
              have n2_ := Aside0.mk (Kd.R_elder' (rk HO_231000.out) (Kd.R_base ho0) hb)
              have n3_ := Aside0.mk (Kd.R_elder' (rk HO244.out) (Kd.R_base ho0) hb)
              have n4_ := Aside0.mk (Kd.R_lower (Kd.R_new' (Kd.R_new' (Kd.R_new' (Kd.R_new' ho0 (Kd.R_lt (rk HO_219000.out))) (Kd.R_lt (rk HO_223000.out))) (Kd.R_lt (rk HO_231000.out))) (Kd.R_lt (rk HO244.out))) (below_size (hB HB.out)))
              have n5_ := Aside0.mk (blk_below (g := gb205) (o := .cells #[.slice A0_0 l0_0.length c0_0] 24 (0, 0)) (bk BK205.out) hb)
              have n6_ := Aside0.mk (blk_below (g := gb206) (o := .cells #[.int .i64 a1_0, .int .i64 a1_1, .int .i64 a1_2] 34 (0, 0)) (bk BK206.out) hb)
              have n7_ := Aside0.mk (blk_below (g := gb218) (o := .cells #[.slice Ao29 t214.length co29] 29 (0, 0)) (bk BK218.out) hb)
              have n8_ := Aside0.mk (blk_below (g := gb222) (o := .cells #[.slice Ao35 t237.length co35] 29 (0, 0)) (bk BK222.out) hb)
              have n9_ := Aside0.mk (blk_below (g := gb230) (o := .cells #[.slice Ao46 t226.length co46] 29 (0, 0)) (bk BK230.out) hb)
              have n10_ := Aside0.mk (blk_below (g := gb252) (o := .cells #[.slice none 0 0] 29 (0, 0)) (bk BK252.out) hb)
              have n11_ := Aside0.mk (below_step (hB HB.out) hb)
              clear HO_219000
              clear HO_223000
              clear HO_231000
              clear HO244
              clear BK205
              clear BK206
              clear BK218
              clear BK222
              clear BK230
              clear BK252
              clear HB
              have HO_219000 := n0_
              have HO_223000 := n1_
              have HO_231000 := n2_
              have HO244 := n3_
              have HO250 := n4_
              have BK205 := n5_
              have BK206 := n6_
              have BK218 := n7_
              have BK222 := n8_
              have BK230 := n9_
              have BK252 := n10_
              have HB := n11_
              clear n0_ n1_ n2_ n3_ n4_ n5_ n6_ n7_ n8_ n9_ n10_ n11_
              (try clear hb)
              (try clear hb2)
              (try clear hk)
              (try clear hi)
              (try clear ho0)
              refine hK.out _ _ ⟨(blk_cell BK205.out 0).trans rfl, (blk_cell BK206.out 0).trans rfl, (blk_cell BK206.out 1).trans rfl, (blk_cell BK206.out 2).trans rfl⟩ (fun hHeld => ?_)
              clear hK K
              refine norm_ (a' := ?_) ?_ ?_
              rotate_left
              ·show Act.put _ (some 84) _ = _
               simp only [Act.put, List.setIfInBounds_toArray, List.set_cons_zero, List.set_cons_succ, i64_w, i32_w]
               rfl
              refine pure_ (i := 5) (N := some 79) (v := ?_) (a' := ?_) #[true, true, true, true, true, true, false, false, true, false, false] rfl rfl (any_of HT_.out (by kernel_rfl)) (fun _ _ _ h => h) (Or.inl ⟨by rfl, ?_⟩) ?_ ?_
              rotate_left
              ·intro w'
               go_simp
               with_reducible rfl
              rotate_left
              ·simp only [Act.put, List.setIfInBounds_toArray, List.set_cons_zero, List.set_cons_succ, i64_w, i32_w]
               rfl
              refine pure_ (i := 6) (N := some 85) (v := ?_) (a' := ?_) #[true, true, true, true, true, true, true, false, true, false, false] rfl rfl (any_of HT_.out (by kernel_rfl)) (fun _ _ _ h => h) (Or.inl ⟨by rfl, ?_⟩) ?_ ?_
              rotate_left
              ·intro w'
               go_simp
               with_reducible rfl
              rotate_left
              ·simp only [Act.put, List.setIfInBounds_toArray, List.set_cons_zero, List.set_cons_succ, i64_w, i32_w]
               rfl
              refine pure_ (i := 7) (N := some 86) (v := ?_) (a' := ?_) #[true, true, true, true, true, true, true, true, true, false, false] rfl rfl (any_of HT_.out (by kernel_rfl)) (fun _ _ _ h => h) (Or.inl ⟨by rfl, ?_⟩) ?_ ?_
              rotate_left
              ·intro w'
               go_simp
               with_reducible rfl
              rotate_left
              ·simp only [Act.put, List.setIfInBounds_toArray, List.set_cons_zero, List.set_cons_succ, i64_w, i32_w]
               rfl
              exact norm_ (by simp only [putAll, Act.put, List.setIfInBounds_toArray, List.set_cons_zero, List.set_cons_succ]) (hCont (.slice Ao138 t242.length co138, v249, gb252) _ ⟨hHeld, (rk (Kd.R_mono HO244.out (fun _ hk => ⟨hk.2, ⟨hk.1.1.1.2, ⟨hk.1.1.2, hk.1.2⟩⟩⟩))), (rk (Kd.R_mono HO250.out (fun _ hk => ⟨hk.2, ⟨hk.1.1.1.2, ⟨hk.1.1.2, hk.1.2⟩⟩⟩))), (rk (Kd.R_mono HO_219000.out (fun _ hk => ⟨hk.1.2, ⟨hk.2, ⟨hk.1.1.1, hk.1.1.2⟩⟩⟩))), (rk (Kd.R_mono HO_223000.out (fun _ hk => ⟨hk.1.2, ⟨hk.2, ⟨hk.1.1.1, hk.1.1.2⟩⟩⟩))), (rk (Kd.R_mono HO_231000.out (fun _ hk => ⟨hk.1.2, ⟨hk.2, ⟨hk.1.1.1, hk.1.1.2⟩⟩⟩))), (bk BK205.out), (bk BK206.out), (bk BK218.out), (bk BK222.out), (bk BK230.out), (bk BK252.out), GW252.out, GE252.out, NB205_252.out, NB252_205.out, NB206_252.out, NB252_206.out, NB218_252.out, NB252_218.out, NB222_252.out, NB252_222.out, NB230_252.out, NB252_230.out, (hB HB.out)⟩)
            ·skip
             refine box_step ?hg (N := 14) ?hd (cs := #[.slice none 0 0]) (t := 29) ?hr ?_; (case hd => rfl); (case hg => rfl); (case hr => first | (go_simp; done) | (go_simp; rfl))
             intro gb252 hg w135 hbox hb
             have n0_ := Aside0.mk (Kd.R_below (rk HO_219000.out) hb)
             have n1_ := Aside0.mk (Kd.R_below (rk HO_223000.out) hb)
             have n2_ := Aside0.mk (Kd.R_below (rk HO_231000.out) hb)
             have n3_ := Aside0.mk (blk_below (g := gb205) (o := .cells #[.slice A0_0 l0_0.length c0_0] 24 (0, 0)) (bk BK205.out) hb)
             have n4_ := Aside0.mk (blk_below (g := gb206) (o := .cells #[.int .i64 a1_0, .int .i64 a1_1, .int .i64 a1_2] 34 (0, 0)) (bk BK206.out) hb)
             have n5_ := Aside0.mk (blk_below (g := gb218) (o := .cells #[.slice Ao29 t214.length co29] 29 (0, 0)) (bk BK218.out) hb)
             have n6_ := Aside0.mk (blk_below (g := gb222) (o := .cells #[.slice Ao35 t237.length co35] 29 (0, 0)) (bk BK222.out) hb)
             have n7_ := Aside0.mk (blk_below (g := gb230) (o := .cells #[.slice Ao46 t226.length co46] 29 (0, 0)) (bk BK230.out) hb)
             have n8_ := Aside0.mk (below_step (hB HB.out) hb)
             have n9_ := Aside0.mk (hbox)
             have n10_ := Aside0.mk ((by rw [hg]; exact (below_size (hB HB.out)) : w.heap.size ≤ gb252))
             have n11_ := Aside0.mk ((by rw [hg]; exact (below_size (hB HB.out)) : w.heap.size ≤ gb252))
             have n12_ := Aside0.mk ((by rw [hg]; exact Nat.ne_of_lt (blk_lt (g := gb205) (o := .cells #[.slice A0_0 l0_0.length c0_0] 24 (0, 0)) (bk BK205.out)) : gb205 ≠ gb252))
             have n13_ := Aside0.mk ((by rw [hg]; exact Nat.ne_of_gt (blk_lt (g := gb205) (o := .cells #[.slice A0_0 l0_0.length c0_0] 24 (0, 0)) (bk BK205.out)) : gb252 ≠ gb205))
             have n14_ := Aside0.mk ((by rw [hg]; exact Nat.ne_of_lt (blk_lt (g := gb206) (o := .cells #[.int .i64 a1_0, .int .i64 a1_1, .int .i64 a1_2] 34 (0, 0)) (bk BK206.out)) : gb206 ≠ gb252))
             have n15_ := Aside0.mk ((by rw [hg]; exact Nat.ne_of_gt (blk_lt (g := gb206) (o := .cells #[.int .i64 a1_0, .int .i64 a1_1, .int .i64 a1_2] 34 (0, 0)) (bk BK206.out)) : gb252 ≠ gb206))
             have n16_ := Aside0.mk ((by rw [hg]; exact Nat.ne_of_lt (blk_lt (g := gb218) (o := .cells #[.slice Ao29 t214.length co29] 29 (0, 0)) (bk BK218.out)) : gb218 ≠ gb252))
             have n17_ := Aside0.mk ((by rw [hg]; exact Nat.ne_of_gt (blk_lt (g := gb218) (o := .cells #[.slice Ao29 t214.length co29] 29 (0, 0)) (bk BK218.out)) : gb252 ≠ gb218))
             have n18_ := Aside0.mk ((by rw [hg]; exact Nat.ne_of_lt (blk_lt (g := gb222) (o := .cells #[.slice Ao35 t237.length co35] 29 (0, 0)) (bk BK222.out)) : gb222 ≠ gb252))
             have n19_ := Aside0.mk ((by rw [hg]; exact Nat.ne_of_gt (blk_lt (g := gb222) (o := .cells #[.slice Ao35 t237.length co35] 29 (0, 0)) (bk BK222.out)) : gb252 ≠ gb222))
             have n20_ := Aside0.mk ((by rw [hg]; exact Nat.ne_of_lt (blk_lt (g := gb230) (o := .cells #[.slice Ao46 t226.length co46] 29 (0, 0)) (bk BK230.out)) : gb230 ≠ gb252))
             have n21_ := Aside0.mk ((by rw [hg]; exact Nat.ne_of_gt (blk_lt (g := gb230) (o := .cells #[.slice Ao46 t226.length co46] 29 (0, 0)) (bk BK230.out)) : gb252 ≠ gb230))
             clear HO_219000
             clear HO_223000
             clear HO_231000
             clear BK205
             clear BK206
             clear BK218
             clear BK222
             clear BK230
             clear HB
             have HO_219000 := n0_
             have HO_223000 := n1_
             have HO_231000 := n2_
             have BK205 := n3_
             have BK206 := n4_
             have BK218 := n5_
             have BK222 := n6_
             have BK230 := n7_
             have HB := n8_
             have BK252 := n9_
             have GW252 := n10_
             have GE252 := n11_
             have NB205_252 := n12_
             have NB252_205 := n13_
             have NB206_252 := n14_
             have NB252_206 := n15_
             have NB218_252 := n16_
             have NB252_218 := n17_
             have NB222_252 := n18_
             have NB252_222 := n19_
             have NB230_252 := n20_
             have NB252_230 := n21_
             clear n0_ n1_ n2_ n3_ n4_ n5_ n6_ n7_ n8_ n9_ n10_ n11_ n12_ n13_ n14_ n15_ n16_ n17_ n18_ n19_ n20_ n21_
             clear hb hbox hg
             refine hK.out _ _ ⟨(blk_cell BK205.out 0).trans rfl, (blk_cell BK206.out 0).trans rfl, (blk_cell BK206.out 1).trans rfl, (blk_cell BK206.out 2).trans rfl⟩ (fun hHeld => ?_)
             clear hK K
             refine norm_ (a' := ?_) ?_ ?_
             rotate_left
             ·show Act.put _ (some 14) _ = _
              simp only [Act.put, List.setIfInBounds_toArray, List.set_cons_zero, List.set_cons_succ, i64_w, i32_w]
              rfl
             refine one_ (i := 1) (N := some 81) #[true, true, true, false, false, false, false, false, true, false, false] rfl rfl (one_of HT_.out (by kernel_rfl)) (by decide) (fun K hK => ?_)
             refine goes_ Try.func17 (by kernel_rfl) rfl #[.agg #[.slice A0_0 l0_0.length c0_0]] (by rfl) rfl rfl (by (try simp only [List.map_toArray, List.map_cons, List.map_nil]); first | done | rfl | (simp only [List.length_drop, List.length_take]; rfl)) ?_
             with_reducible refine (laws_toPuzzle.calls kj74 _ _ l0_0 t242 _ ?side1 ?side2 A122.out).mono ?_
             (case side1 => repeat (first | exact (Kd.C_below HR0_0.out HB.out) | (with_reducible refine Kd.C_alloc ?_ _) | (with_reducible refine Kd.C_drewN ?_ _) | (with_reducible refine Kd.C_drew ?_)))
             (case side2 => exact HC0_0.out)
             rintro e w136 ⟨v243, rfl, ho0, hb⟩
             refine ⟨_, rfl, ?_⟩
             have n0_ := Aside0.mk (Kd.R_elder' (rk HO_219000.out) (Kd.R_base ho0) hb)
             have n1_ := Aside0.mk (Kd.R_elder' (rk HO_223000.out) (Kd.R_base ho0) hb)
             have n2_ := Aside0.mk (Kd.R_elder' (rk HO_231000.out) (Kd.R_base ho0) hb)
             have n3_ := Aside0.mk (Kd.R_lower (Kd.R_new' (Kd.R_new' (Kd.R_new' ho0 (Kd.R_lt (rk HO_219000.out))) (Kd.R_lt (rk HO_223000.out))) (Kd.R_lt (rk HO_231000.out))) (below_size (hB HB.out)))
             have n4_ := Aside0.mk (blk_below (g := gb205) (o := .cells #[.slice A0_0 l0_0.length c0_0] 24 (0, 0)) (bk BK205.out) hb)
             have n5_ := Aside0.mk (blk_below (g := gb206) (o := .cells #[.int .i64 a1_0, .int .i64 a1_1, .int .i64 a1_2] 34 (0, 0)) (bk BK206.out) hb)
             have n6_ := Aside0.mk (blk_below (g := gb218) (o := .cells #[.slice Ao29 t214.length co29] 29 (0, 0)) (bk BK218.out) hb)
             have n7_ := Aside0.mk (blk_below (g := gb222) (o := .cells #[.slice Ao35 t237.length co35] 29 (0, 0)) (bk BK222.out) hb)
             have n8_ := Aside0.mk (blk_below (g := gb230) (o := .cells #[.slice Ao46 t226.length co46] 29 (0, 0)) (bk BK230.out) hb)
             have n9_ := Aside0.mk (blk_below (g := gb252) (o := .cells #[.slice none 0 0] 29 (0, 0)) (bk BK252.out) hb)
             have n10_ := Aside0.mk (below_step (hB HB.out) hb)
             clear HO_219000
             clear HO_223000
             clear HO_231000
             clear BK205
             clear BK206
             clear BK218
             clear BK222
             clear BK230
             clear BK252
             clear HB
             have HO_219000 := n0_
             have HO_223000 := n1_
             have HO_231000 := n2_
             have HO244 := n3_
             have BK205 := n4_
             have BK206 := n5_
             have BK218 := n6_
             have BK222 := n7_
             have BK230 := n8_
             have BK252 := n9_
             have HB := n10_
             clear n0_ n1_ n2_ n3_ n4_ n5_ n6_ n7_ n8_ n9_ n10_
             (try clear hb)
             (try clear hb2)
             (try clear hk)
             (try clear hi)
             (try clear ho0)
             refine hK.out _ _ ⟨(blk_cell BK205.out 0).trans rfl, (blk_cell BK206.out 0).trans rfl, (blk_cell BK206.out 1).trans rfl, (blk_cell BK206.out 2).trans rfl⟩ (fun hHeld => ?_)
             clear hK K
             refine norm_ (a' := ?_) ?_ ?_
             rotate_left
             ·show Act.put _ (some 81) _ = _
              simp only [Act.put, List.setIfInBounds_toArray, List.set_cons_zero, List.set_cons_succ, i64_w, i32_w]
              rfl
             refine one_ (i := 3) (N := some 83) #[true, true, true, true, false, false, false, false, true, false, false] rfl rfl (one_of HT_.out (by kernel_rfl)) (by decide) (fun K hK => ?_)
             refine goes_ Try.func21 (by kernel_rfl) rfl #[.agg #[.int .i64 a1_0, .int .i64 a1_1, .int .i64 a1_2]] (by rfl) rfl rfl (by (try simp only [List.map_toArray, List.map_cons, List.map_nil]); first | done | rfl | (simp only [List.length_drop, List.length_take]; rfl)) ?_
             with_reducible refine (laws_toClue.calls a1_0 a1_1 a1_2 t245 t246 t247 _ A123.out).mono ?_
             rintro e w137 ⟨rfl, hb⟩
             refine ⟨_, rfl, ?_⟩
             have n0_ := Aside0.mk (Kd.R_below (rk HO_219000.out) hb)
             have n1_ := Aside0.mk (Kd.R_below (rk HO_223000.out) hb)
             have n2_ := Aside0.mk (Kd.R_below (rk HO_231000.out) hb)
             have n3_ := Aside0.mk (Kd.R_below (rk HO244.out) hb)
             have n4_ := Aside0.mk (blk_below (g := gb205) (o := .cells #[.slice A0_0 l0_0.length c0_0] 24 (0, 0)) (bk BK205.out) hb)
             have n5_ := Aside0.mk (blk_below (g := gb206) (o := .cells #[.int .i64 a1_0, .int .i64 a1_1, .int .i64 a1_2] 34 (0, 0)) (bk BK206.out) hb)
             have n6_ := Aside0.mk (blk_below (g := gb218) (o := .cells #[.slice Ao29 t214.length co29] 29 (0, 0)) (bk BK218.out) hb)
             have n7_ := Aside0.mk (blk_below (g := gb222) (o := .cells #[.slice Ao35 t237.length co35] 29 (0, 0)) (bk BK222.out) hb)
             have n8_ := Aside0.mk (blk_below (g := gb230) (o := .cells #[.slice Ao46 t226.length co46] 29 (0, 0)) (bk BK230.out) hb)
             have n9_ := Aside0.mk (blk_below (g := gb252) (o := .cells #[.slice none 0 0] 29 (0, 0)) (bk BK252.out) hb)
             have n10_ := Aside0.mk (below_step (hB HB.out) hb)
             clear HO_219000
             clear HO_223000
             clear HO_231000
             clear HO244
             clear BK205
             clear BK206
             clear BK218
             clear BK222
             clear BK230
             clear BK252
             clear HB
             have HO_219000 := n0_
             have HO_223000 := n1_
             have HO_231000 := n2_
             have HO244 := n3_
             have BK205 := n4_
             have BK206 := n5_
             have BK218 := n6_
             have BK222 := n7_
             have BK230 := n8_
             have BK252 := n9_
             have HB := n10_
             clear n0_ n1_ n2_ n3_ n4_ n5_ n6_ n7_ n8_ n9_ n10_
             (try clear hb)
             (try clear hb2)
             (try clear hk)
             (try clear hi)
             obtain ⟨Ao138, co138, eo138⟩ := Kd.R_slice HO244.out
             (first | subst eo138 | (injection eo138 with f1_ f2_ f3_; have f4_ := f1_.symm; have f5_ := f3_.symm; clear f1_ f2_ f3_; subst f4_; subst f5_))
             refine hK.out _ _ ⟨(blk_cell BK205.out 0).trans rfl, (blk_cell BK206.out 0).trans rfl, (blk_cell BK206.out 1).trans rfl, (blk_cell BK206.out 2).trans rfl⟩ (fun hHeld => ?_)
             clear hK K
             refine norm_ (a' := ?_) ?_ ?_
             rotate_left
             ·show Act.put _ (some 83) _ = _
              simp only [Act.put, List.setIfInBounds_toArray, List.set_cons_zero, List.set_cons_succ, i64_w, i32_w]
              rfl
             refine one_ (i := 4) (N := some 84) #[true, true, true, true, true, false, false, false, true, false, false] rfl rfl (one_of HT_.out (by kernel_rfl)) (by decide) (fun K hK => ?_)
             refine goes_ Try.func25 (by kernel_rfl) rfl #[.agg #[.slice Ao138 t242.length co138], .agg #[.int .i64 t245, .int .i64 t246, .int .i64 t247]] (by rfl) rfl rfl (by (try simp only [List.map_toArray, List.map_cons, List.map_nil]); first | done | rfl | (simp only [List.length_drop, List.length_take]; rfl)) ?_
             with_reducible refine (impl_AddClue.calls kj74 _ _ t242 t245 t246 t247 t248 t251 _ ?side1 ?side2 A124.out).mono ?_
             (case side1 => repeat (first | exact (Kd.R_reads' HO244.out).2.2 | (with_reducible refine Kd.C_alloc ?_ _) | (with_reducible refine Kd.C_drewN ?_ _) | (with_reducible refine Kd.C_drew ?_)))
             (case side2 => exact (Kd.R_reads' HO244.out).2.1)
             rintro e w139 ⟨v249, rfl, ho0, hb⟩
             refine ⟨_, rfl, ?_⟩
             have n0_ := Aside0.mk (Kd.R_elder' (rk HO_219000.out) (Kd.R_base ho0) hb)
             have n1_ := Aside0.mk (Kd.R_elder' (rk HO_223000.out) (Kd.R_base ho0) hb)
             have n2_ := Aside0.mk (Kd.R_elder' (rk HO_231000.out) (Kd.R_base ho0) hb)
             have n3_ := Aside0.mk (Kd.R_elder' (rk HO244.out) (Kd.R_base ho0) hb)
             have n4_ := Aside0.mk (Kd.R_lower (Kd.R_new' (Kd.R_new' (Kd.R_new' (Kd.R_new' ho0 (Kd.R_lt (rk HO_219000.out))) (Kd.R_lt (rk HO_223000.out))) (Kd.R_lt (rk HO_231000.out))) (Kd.R_lt (rk HO244.out))) (below_size (hB HB.out)))
             have n5_ := Aside0.mk (blk_below (g := gb205) (o := .cells #[.slice A0_0 l0_0.length c0_0] 24 (0, 0)) (bk BK205.out) hb)
             have n6_ := Aside0.mk (blk_below (g := gb206) (o := .cells #[.int .i64 a1_0, .int .i64 a1_1, .int .i64 a1_2] 34 (0, 0)) (bk BK206.out) hb)
             have n7_ := Aside0.mk (blk_below (g := gb218) (o := .cells #[.slice Ao29 t214.length co29] 29 (0, 0)) (bk BK218.out) hb)
             have n8_ := Aside0.mk (blk_below (g := gb222) (o := .cells #[.slice Ao35 t237.length co35] 29 (0, 0)) (bk BK222.out) hb)
             have n9_ := Aside0.mk (blk_below (g := gb230) (o := .cells #[.slice Ao46 t226.length co46] 29 (0, 0)) (bk BK230.out) hb)
             have n10_ := Aside0.mk (blk_below (g := gb252) (o := .cells #[.slice none 0 0] 29 (0, 0)) (bk BK252.out) hb)
             have n11_ := Aside0.mk (below_step (hB HB.out) hb)
             clear HO_219000
             clear HO_223000
             clear HO_231000
             clear HO244
             clear BK205
             clear BK206
             clear BK218
             clear BK222
             clear BK230
             clear BK252
             clear HB
             have HO_219000 := n0_
             have HO_223000 := n1_
             have HO_231000 := n2_
             have HO244 := n3_
             have HO250 := n4_
             have BK205 := n5_
             have BK206 := n6_
             have BK218 := n7_
             have BK222 := n8_
             have BK230 := n9_
             have BK252 := n10_
             have HB := n11_
             clear n0_ n1_ n2_ n3_ n4_ n5_ n6_ n7_ n8_ n9_ n10_ n11_
             (try clear hb)
             (try clear hb2)
             (try clear hk)
             (try clear hi)
             (try clear ho0)
             refine hK.out _ _ ⟨(blk_cell BK205.out 0).trans rfl, (blk_cell BK206.out 0).trans rfl, (blk_cell BK206.out 1).trans rfl, (blk_cell BK206.out 2).trans rfl⟩ (fun hHeld => ?_)
             clear hK K
             refine norm_ (a' := ?_) ?_ ?_
             rotate_left
             ·show Act.put _ (some 84) _ = _
              simp only [Act.put, List.setIfInBounds_toArray, List.set_cons_zero, List.set_cons_succ, i64_w, i32_w]
              rfl
             refine pure_ (i := 5) (N := some 79) (v := ?_) (a' := ?_) #[true, true, true, true, true, true, false, false, true, false, false] rfl rfl (any_of HT_.out (by kernel_rfl)) (fun _ _ _ h => h) (Or.inl ⟨by rfl, ?_⟩) ?_ ?_
             rotate_left
             ·intro w'
              go_simp
              with_reducible rfl
             rotate_left
             ·simp only [Act.put, List.setIfInBounds_toArray, List.set_cons_zero, List.set_cons_succ, i64_w, i32_w]
              rfl
             refine pure_ (i := 6) (N := some 85) (v := ?_) (a' := ?_) #[true, true, true, true, true, true, true, false, true, false, false] rfl rfl (any_of HT_.out (by kernel_rfl)) (fun _ _ _ h => h) (Or.inl ⟨by rfl, ?_⟩) ?_ ?_
             rotate_left
             ·intro w'
              go_simp
              with_reducible rfl
             rotate_left
             ·simp only [Act.put, List.setIfInBounds_toArray, List.set_cons_zero, List.set_cons_succ, i64_w, i32_w]
              rfl
             refine pure_ (i := 7) (N := some 86) (v := ?_) (a' := ?_) #[true, true, true, true, true, true, true, true, true, false, false] rfl rfl (any_of HT_.out (by kernel_rfl)) (fun _ _ _ h => h) (Or.inl ⟨by rfl, ?_⟩) ?_ ?_
             rotate_left
             ·intro w'
              go_simp
              with_reducible rfl
             rotate_left
             ·simp only [Act.put, List.setIfInBounds_toArray, List.set_cons_zero, List.set_cons_succ, i64_w, i32_w]
              rfl
             exact norm_ (by simp only [putAll, Act.put, List.setIfInBounds_toArray, List.set_cons_zero, List.set_cons_succ]) (hCont (.slice Ao138 t242.length co138, v249, gb252) _ ⟨hHeld, (rk (Kd.R_mono HO244.out (fun _ hk => ⟨hk.2, ⟨hk.1.1.1.2, ⟨hk.1.1.2, hk.1.2⟩⟩⟩))), (rk (Kd.R_mono HO250.out (fun _ hk => ⟨hk.2, ⟨hk.1.1.1.2, ⟨hk.1.1.2, hk.1.2⟩⟩⟩))), (rk (Kd.R_mono HO_219000.out (fun _ hk => ⟨hk.1.2, ⟨hk.2, ⟨hk.1.1.1, hk.1.1.2⟩⟩⟩))), (rk (Kd.R_mono HO_223000.out (fun _ hk => ⟨hk.1.2, ⟨hk.2, ⟨hk.1.1.1, hk.1.1.2⟩⟩⟩))), (rk (Kd.R_mono HO_231000.out (fun _ hk => ⟨hk.1.2, ⟨hk.2, ⟨hk.1.1.1, hk.1.1.2⟩⟩⟩))), (bk BK205.out), (bk BK206.out), (bk BK218.out), (bk BK222.out), (bk BK230.out), (bk BK252.out), GW252.out, GE252.out, NB205_252.out, NB252_205.out, NB206_252.out, NB252_206.out, NB218_252.out, NB252_218.out, NB222_252.out, NB252_222.out, NB230_252.out, NB252_230.out, (hB HB.out)⟩)
           rintro ⟨v243, v249, gb252⟩ w140 ⟨hS_, h0_, h1_, h2_, h3_, h4_, h5_, h6_, h7_, h8_, h9_, h10_, h11_, h12_, h13_, h14_, h15_, h16_, h17_, h18_, h19_, h20_, h21_, h22_, h23_⟩
           have n0_ : Aside0 (Kd.R k39 39 w140 w.heap.size (fun k_ => some k_ ≠ (v249 : Value).ownBlock ∧ some k_ ≠ (.slice Ao29 t214.length co29 : Value).ownBlock ∧ some k_ ≠ (.slice Ao35 t237.length co35 : Value).ownBlock ∧ some k_ ≠ (.slice Ao46 t226.length co46 : Value).ownBlock) v243 t242) := ⟨h0_⟩
           have n1_ : Aside0 (Kd.R k39 39 w140 w.heap.size (fun k_ => some k_ ≠ (v243 : Value).ownBlock ∧ some k_ ≠ (.slice Ao29 t214.length co29 : Value).ownBlock ∧ some k_ ≠ (.slice Ao35 t237.length co35 : Value).ownBlock ∧ some k_ ≠ (.slice Ao46 t226.length co46 : Value).ownBlock) v249 t248) := ⟨h1_⟩
           have n2_ : Aside0 (Kd.R k39 39 w140 w.heap.size (fun k_ => some k_ ≠ (v243 : Value).ownBlock ∧ some k_ ≠ (v249 : Value).ownBlock ∧ some k_ ≠ (.slice Ao35 t237.length co35 : Value).ownBlock ∧ some k_ ≠ (.slice Ao46 t226.length co46 : Value).ownBlock) (.slice Ao29 t214.length co29) t214) := ⟨h2_⟩
           have n3_ : Aside0 (Kd.R k39 39 w140 w.heap.size (fun k_ => some k_ ≠ (v243 : Value).ownBlock ∧ some k_ ≠ (v249 : Value).ownBlock ∧ some k_ ≠ (.slice Ao29 t214.length co29 : Value).ownBlock ∧ some k_ ≠ (.slice Ao46 t226.length co46 : Value).ownBlock) (.slice Ao35 t237.length co35) t237) := ⟨h3_⟩
           have n4_ : Aside0 (Kd.R k39 39 w140 w.heap.size (fun k_ => some k_ ≠ (v243 : Value).ownBlock ∧ some k_ ≠ (v249 : Value).ownBlock ∧ some k_ ≠ (.slice Ao29 t214.length co29 : Value).ownBlock ∧ some k_ ≠ (.slice Ao35 t237.length co35 : Value).ownBlock) (.slice Ao46 t226.length co46) t240) := ⟨h4_⟩
           have n5_ : Aside0 (w140.heap[gb205]? = some (.cells #[.slice A0_0 l0_0.length c0_0] 24 (0, 0))) := ⟨h5_⟩
           have n6_ : Aside0 (w140.heap[gb206]? = some (.cells #[.int .i64 a1_0, .int .i64 a1_1, .int .i64 a1_2] 34 (0, 0))) := ⟨h6_⟩
           have n7_ : Aside0 (w140.heap[gb218]? = some (.cells #[.slice Ao29 t214.length co29] 29 (0, 0))) := ⟨h7_⟩
           have n8_ : Aside0 (w140.heap[gb222]? = some (.cells #[.slice Ao35 t237.length co35] 29 (0, 0))) := ⟨h8_⟩
           have n9_ : Aside0 (w140.heap[gb230]? = some (.cells #[.slice Ao46 t226.length co46] 29 (0, 0))) := ⟨h9_⟩
           have n10_ : Aside0 (w140.heap[gb252]? = some (.cells #[.slice none 0 0] 29 (0, 0))) := ⟨h10_⟩
           have n11_ : Aside0 (w.heap.size ≤ gb252) := ⟨h11_⟩
           have n12_ : Aside0 (w.heap.size ≤ gb252) := ⟨h12_⟩
           have n13_ : Aside0 (gb205 ≠ gb252) := ⟨h13_⟩
           have n14_ : Aside0 (gb252 ≠ gb205) := ⟨h14_⟩
           have n15_ : Aside0 (gb206 ≠ gb252) := ⟨h15_⟩
           have n16_ : Aside0 (gb252 ≠ gb206) := ⟨h16_⟩
           have n17_ : Aside0 (gb218 ≠ gb252) := ⟨h17_⟩
           have n18_ : Aside0 (gb252 ≠ gb218) := ⟨h18_⟩
           have n19_ : Aside0 (gb222 ≠ gb252) := ⟨h19_⟩
           have n20_ : Aside0 (gb252 ≠ gb222) := ⟨h20_⟩
           have n21_ : Aside0 (gb230 ≠ gb252) := ⟨h21_⟩
           have n22_ : Aside0 (gb252 ≠ gb230) := ⟨h22_⟩
           have n23_ : Aside0 (Below w.heap.size w w140) := ⟨h23_⟩
           clear HO_219000
           clear HO_223000
           clear HO_231000
           clear BK205
           clear BK206
           clear BK218
           clear BK222
           clear BK230
           clear HB
           clear h0_ h1_ h2_ h3_ h4_ h5_ h6_ h7_ h8_ h9_ h10_ h11_ h12_ h13_ h14_ h15_ h16_ h17_ h18_ h19_ h20_ h21_ h22_ h23_
           have HO244 := n0_
           have HO250 := n1_
           have HO_219000 := n2_
           have HO_223000 := n3_
           have HO_231000 := n4_
           have BK205 := n5_
           have BK206 := n6_
           have BK218 := n7_
           have BK222 := n8_
           have BK230 := n9_
           have BK252 := n10_
           have GW252 := n11_
           have GE252 := n12_
           have NB205_252 := n13_
           have NB252_205 := n14_
           have NB206_252 := n15_
           have NB252_206 := n16_
           have NB218_252 := n17_
           have NB252_218 := n18_
           have NB222_252 := n19_
           have NB252_222 := n20_
           have NB230_252 := n21_
           have NB252_230 := n22_
           have HB := n23_
           clear n0_ n1_ n2_ n3_ n4_ n5_ n6_ n7_ n8_ n9_ n10_ n11_ n12_ n13_ n14_ n15_ n16_ n17_ n18_ n19_ n20_ n21_ n22_ n23_
           have hHeld : w140.cell? ⟨gb205, 0, none⟩ = some (.slice A0_0 l0_0.length c0_0) ∧ w140.cell? ⟨gb206, 0, none⟩ = some (.int .i64 a1_0) ∧ w140.cell? ⟨gb206, 1, none⟩ = some (.int .i64 a1_1) ∧ w140.cell? ⟨gb206, 2, none⟩ = some (.int .i64 a1_2) := hS_
           obtain ⟨Ao141, co141, eo141⟩ := Kd.R_slice HO250.out
           (first | subst eo141 | (injection eo141 with f1_ f2_ f3_; have f4_ := f1_.symm; have f5_ := f3_.symm; clear f1_ f2_ f3_; subst f4_; subst f5_))
           refine norm_ (a' := ?_) ?_ ?_
           rotate_left
           ·simp only [putAll, Act.put, List.setIfInBounds_toArray, List.set_cons_zero, List.set_cons_succ]
            rfl
           refine one_ (i := 9) (N := none) #[true, true, true, true, true, true, true, true, true, true, false] rfl rfl (one_of HT_.out (by kernel_rfl)) (by decide) (fun K hK => ?_)
           have hs142 : w140.cell? ⟨gb252, 0, none⟩ = some (.slice none 0 0) := (blk_cell BK252.out 0).trans rfl
           have hfs142 := blk_frozen BK252.out 0
           have hns142_0 := NB205_252.out
           have hns142_1 := NB206_252.out
           have hns142_2 := NB218_252.out
           have hns142_3 := NB222_252.out
           have hns142_4 := NB230_252.out
           have hms142_0 := NB252_205.out
           have hms142_1 := NB252_206.out
           have hms142_2 := NB252_218.out
           have hms142_3 := NB252_222.out
           have hms142_4 := NB252_230.out
           refine skip_ (w1 := ?_) (by rfl) rfl ?_ ?_
           rotate_left
           ·go_simp
            rfl
           refine hK.out _ _ ⟨((cell_far (p := ⟨gb252, _, none⟩) NB205_252.out _).trans (hHeld.1)), ((cell_far (p := ⟨gb252, _, none⟩) NB206_252.out _).trans (hHeld.2.1)), ((cell_far (p := ⟨gb252, _, none⟩) NB206_252.out _).trans (hHeld.2.2.1)), ((cell_far (p := ⟨gb252, _, none⟩) NB206_252.out _).trans (hHeld.2.2.2))⟩ (fun hHeld => ?_)
           clear hK K
           refine pure_ (i := 10) (N := some 15) (v := ?_) (a' := ?_) #[true, true, true, true, true, true, true, true, true, true, true] rfl rfl (any_of HT_.out (by kernel_rfl)) (fun _ _ _ h => h) (Or.inl ⟨by rfl, ?_⟩) ?_ ?_
           rotate_left
           ·intro w'
            go_simp
            with_reducible rfl
           rotate_left
           ·simp only [Act.put, List.setIfInBounds_toArray, List.set_cons_zero, List.set_cons_succ, i64_w, i32_w]
            rfl
           refine done_ (done_of HT_.out (by kernel_rfl)) ?_
           go_upto_region 25 with (fail)
           go_cut [95] (fun v95 wc => ∃ (kq : Nat) (x95_124 : Bool), v95 = .bool x95_124 ∧ Aside0 (laws_FnExactAddClue.j2 kq t239 x95_124 t240 = some r) ∧ Aside0 (kq ≤ kj74) ∧ Aside0 (Kd.R k39 39 wc w.heap.size (fun k_ => some k_ ≠ ((.slice Ao35 t237.length co35) : Value).ownBlock ∧ some k_ ≠ ((.slice Ao46 t226.length co46) : Value).ownBlock ∧ some k_ ≠ ((.slice Ao141 t248.length co141) : Value).ownBlock) (.slice Ao29 t214.length co29) t214) ∧ Aside0 (Kd.R k39 39 wc w.heap.size (fun k_ => some k_ ≠ ((.slice Ao29 t214.length co29) : Value).ownBlock ∧ some k_ ≠ ((.slice Ao46 t226.length co46) : Value).ownBlock ∧ some k_ ≠ ((.slice Ao141 t248.length co141) : Value).ownBlock) (.slice Ao35 t237.length co35) t237) ∧ Aside0 (Kd.R k39 39 wc w.heap.size (fun k_ => some k_ ≠ ((.slice Ao29 t214.length co29) : Value).ownBlock ∧ some k_ ≠ ((.slice Ao35 t237.length co35) : Value).ownBlock ∧ some k_ ≠ ((.slice Ao141 t248.length co141) : Value).ownBlock) (.slice Ao46 t226.length co46) t240) ∧ Aside0 (Kd.R k39 39 wc w.heap.size (fun k_ => some k_ ≠ ((.slice Ao29 t214.length co29) : Value).ownBlock ∧ some k_ ≠ ((.slice Ao35 t237.length co35) : Value).ownBlock ∧ some k_ ≠ ((.slice Ao46 t226.length co46) : Value).ownBlock) (.slice Ao141 t248.length co141) t248) ∧ Aside0 (wc.heap[gb205]? = some (.cells #[(.slice A0_0 l0_0.length c0_0)] 24 (0, 0))) ∧ Aside0 (wc.heap[gb206]? = some (.cells #[.int .i64 a1_0, .int .i64 a1_1, .int .i64 a1_2] 34 (0, 0))) ∧ Aside0 (wc.heap[gb218]? = some (.cells #[(.slice Ao29 t214.length co29)] 29 (0, 0))) ∧ Aside0 (wc.heap[gb222]? = some (.cells #[(.slice Ao35 t237.length co35)] 29 (0, 0))) ∧ Aside0 (wc.heap[gb230]? = some (.cells #[(.slice Ao46 t226.length co46)] 29 (0, 0))) ∧ Aside0 (wc.heap[gb252]? = some (.cells #[(.slice Ao141 t248.length co141)] 29 (0, 0))) ∧ Aside0 (Below w.heap.size w wc))
           case first =>
            have H := HC125.out
            clear HC125
            replace H := Option.bind_eq_some_iff.mp H
            obtain ⟨t253, A1430, H⟩ := H
            replace H : (if t253 = true then (laws_FnExactAddClue.j2 kj74 t239 (t251 != t217) t240) else (laws_FnExactAddClue.j2 kj74 t239 true t240)) = some r := H
            have A143 := Aside0.mk A1430
            clear A1430
            by_cases c144 : t253 = true
            ·subst c144
             have H1 : (laws_FnExactAddClue.j2 kj74 t239 (t251 != t217) t240) = some r := by rw [if_pos rfl] at H; exact H
             clear H
             have H := H1
             clear H1
             have H' := Aside0.mk H
             clear H
             have hnb145 := NB252_205.out
             have hnc145 := NB205_252.out
             have hnb146 := NB252_206.out
             have hnc146 := NB206_252.out
             have hnb147 := NB252_218.out
             have hnc147 := NB218_252.out
             have hnb148 := NB252_222.out
             have hnc148 := NB222_252.out
             have hnb149 := NB252_230.out
             have hnc149 := NB230_252.out
             have hcz150_0 : w140.cell? ⟨gb252, 0, none⟩ = some (.slice none 0 0) := (blk_cell BK252.out 0).trans rfl
             have hfz150_0 := blk_frozen BK252.out 0
             have hnb151 := NB218_205.out
             have hnc151 := NB205_218.out
             have hnb152 := NB218_206.out
             have hnc152 := NB206_218.out
             have hnb153 := NB218_222.out
             have hnc153 := NB222_218.out
             have hnb154 := NB218_230.out
             have hnc154 := NB230_218.out
             have hcz155_0 : w140.cell? ⟨gb218, 0, none⟩ = some (.slice Ao29 t214.length co29) := (blk_cell BK218.out 0).trans rfl
             have hfz155_0 := blk_frozen BK218.out 0
             go_wp2_with (first | ((with_reducible refine gate_callee (f := 19) rfl ?_); refine goesL_ (some 89) rfl rfl Try.func19 (by kernel_rfl) rfl #[.agg #[.slice Ao141 t248.length co141], .agg #[.slice Ao29 t214.length co29]] rfl (by (try simp only [List.map_toArray, List.map_cons, List.map_nil]); first | done | rfl | (simp only [List.length_drop, List.length_take]; rfl)) ?_; (with_reducible refine (laws_eqPuzzle.calls kj74 _ _ t248 _ _ t214 true _ ?side1 ?side2 ?side3 ?side4 A143.out).mono ?_); (case side1 => refine (Kd.R_reads' (e := 39) (base := w.heap.size) (ok := fun k_ => (some k_ ≠ (v243 : Value).ownBlock ∧ (some k_ ≠ (.slice Ao29 t214.length co29 : Value).ownBlock ∧ (some k_ ≠ (.slice Ao35 t237.length co35 : Value).ownBlock ∧ some k_ ≠ (.slice Ao46 t226.length co46 : Value).ownBlock)))) (n := t248.length) (c := co141) ?_).2.2; exact (rk (Kd.R_mono (Kd.R_far (p := ⟨gb252, 0, none⟩) (Kd.R_types HO250.out BK252.out (by decide)) (fun _ hk => hk.2) (.slice Ao141 t248.length co141)) (fun _ h_ => h_.1)))); (case side2 => exact (Kd.R_reads' HO250.out).2.1); (case side3 => refine (Kd.R_reads' (e := 39) (base := w.heap.size) (ok := fun k_ => (some k_ ≠ (v243 : Value).ownBlock ∧ (some k_ ≠ (.slice Ao141 t248.length co141 : Value).ownBlock ∧ (some k_ ≠ (.slice Ao35 t237.length co35 : Value).ownBlock ∧ some k_ ≠ (.slice Ao46 t226.length co46 : Value).ownBlock)))) (n := t214.length) (c := co29) ?_).2.2; exact (rk (Kd.R_mono (Kd.R_far (p := ⟨gb252, 0, none⟩) (Kd.R_types HO_219000.out BK252.out (by decide)) (fun _ hk => hk.2) (.slice Ao141 t248.length co141)) (fun _ h_ => h_.1)))); (case side4 => exact (Kd.R_reads' HO_219000.out).2.1); rintro e w156 ⟨rfl, hb⟩; refine ⟨_, rfl, ?_⟩; have n0_ := Aside0.mk (Kd.R_below (rk (Kd.R_mono (Kd.R_far (p := ⟨gb252, 0, none⟩) (Kd.R_types HO_219000.out BK252.out (by decide)) (fun _ hk => hk.2) (.slice Ao141 t248.length co141)) (fun _ h_ => h_.1))) hb); have n1_ := Aside0.mk (Kd.R_below (rk (Kd.R_mono (Kd.R_far (p := ⟨gb252, 0, none⟩) (Kd.R_types HO_223000.out BK252.out (by decide)) (fun _ hk => hk.2) (.slice Ao141 t248.length co141)) (fun _ h_ => h_.1))) hb); have n2_ := Aside0.mk (Kd.R_below (rk (Kd.R_mono (Kd.R_far (p := ⟨gb252, 0, none⟩) (Kd.R_types HO_231000.out BK252.out (by decide)) (fun _ hk => hk.2) (.slice Ao141 t248.length co141)) (fun _ h_ => h_.1))) hb); have n3_ := Aside0.mk (Kd.R_below (rk (Kd.R_mono (Kd.R_far (p := ⟨gb252, 0, none⟩) (Kd.R_types HO244.out BK252.out (by decide)) (fun _ hk => hk.2) (.slice Ao141 t248.length co141)) (fun _ h_ => h_.1))) hb); have n4_ := Aside0.mk (Kd.R_below (rk (Kd.R_mono (Kd.R_far (p := ⟨gb252, 0, none⟩) (Kd.R_types HO250.out BK252.out (by decide)) (fun _ hk => hk.2) (.slice Ao141 t248.length co141)) (fun _ h_ => h_.1))) hb); have n5_ := Aside0.mk (blk_below (g := gb205) (o := .cells #[.slice A0_0 l0_0.length c0_0] 24 (0, 0)) (by (with_reducible repeat (first | refine blk_drewN ?_ _ | refine blk_drew ?_ | refine blk_alloc ?_ _)); refine blk_far ?_ NB205_252.out _; (with_reducible repeat (first | refine blk_drewN ?_ _ | refine blk_drew ?_ | refine blk_alloc ?_ _)); exact BK205.out) hb); have n6_ := Aside0.mk (blk_below (g := gb206) (o := .cells #[.int .i64 a1_0, .int .i64 a1_1, .int .i64 a1_2] 34 (0, 0)) (by (with_reducible repeat (first | refine blk_drewN ?_ _ | refine blk_drew ?_ | refine blk_alloc ?_ _)); refine blk_far ?_ NB206_252.out _; (with_reducible repeat (first | refine blk_drewN ?_ _ | refine blk_drew ?_ | refine blk_alloc ?_ _)); exact BK206.out) hb); have n7_ := Aside0.mk (blk_below (g := gb218) (o := .cells #[.slice Ao29 t214.length co29] 29 (0, 0)) (by (with_reducible repeat (first | refine blk_drewN ?_ _ | refine blk_drew ?_ | refine blk_alloc ?_ _)); refine blk_far ?_ NB218_252.out _; (with_reducible repeat (first | refine blk_drewN ?_ _ | refine blk_drew ?_ | refine blk_alloc ?_ _)); exact BK218.out) hb); have n8_ := Aside0.mk (blk_below (g := gb222) (o := .cells #[.slice Ao35 t237.length co35] 29 (0, 0)) (by (with_reducible repeat (first | refine blk_drewN ?_ _ | refine blk_drew ?_ | refine blk_alloc ?_ _)); refine blk_far ?_ NB222_252.out _; (with_reducible repeat (first | refine blk_drewN ?_ _ | refine blk_drew ?_ | refine blk_alloc ?_ _)); exact BK222.out) hb); have n9_ := Aside0.mk (blk_below (g := gb230) (o := .cells #[.slice Ao46 t226.length co46] 29 (0, 0)) (by (with_reducible repeat (first | refine blk_drewN ?_ _ | refine blk_drew ?_ | refine blk_alloc ?_ _)); refine blk_far ?_ NB230_252.out _; (with_reducible repeat (first | refine blk_drewN ?_ _ | refine blk_drew ?_ | refine blk_alloc ?_ _)); exact BK230.out) hb); have n10_ := Aside0.mk (blk_below (g := gb252) (o := .cells #[.slice Ao141 t248.length co141] 29 (0, 0)) (by (with_reducible repeat (first | refine blk_drewN ?_ _ | refine blk_drew ?_ | refine blk_alloc ?_ _)); refine blk_put (cs := #[.slice none 0 0]) ?_ 0 _ rfl; (with_reducible repeat (first | refine blk_drewN ?_ _ | refine blk_drew ?_ | refine blk_alloc ?_ _)); exact BK252.out) hb); have n11_ := Aside0.mk (below_step (hB HB.out) hb); clear HO_219000; clear HO_223000; clear HO_231000; clear HO244; clear HO250; clear BK205; clear BK206; clear BK218; clear BK222; clear BK230; clear BK252; clear HB; have HO_219000 := n0_; have HO_223000 := n1_; have HO_231000 := n2_; have HO244 := n3_; have HO250 := n4_; have BK205 := n5_; have BK206 := n6_; have BK218 := n7_; have BK222 := n8_; have BK230 := n9_; have BK252 := n10_; have HB := n11_; clear n0_ n1_ n2_ n3_ n4_ n5_ n6_ n7_ n8_ n9_ n10_ n11_; (try clear hb); (try clear hb2); (try clear hk); (try clear hi)))
             go_meet
             case rel => exact ⟨_, ((t251 != t217)), (by first | rfl | (simp; done) | (simp [*]; done)), H', ⟨by have := HJ15.out; have := HJ74.out; first | omega | exact Nat.le_refl _⟩, ⟨by (try simp only [hl223000_74]); (with_reducible repeat (first | apply Kd.R_alloc | apply Kd.R_drewN | apply Kd.R_drew)); exact Kd.R_mono HO_219000.out (fun _ hk => ⟨hk.2.2.1, ⟨hk.2.2.2, hk.2.1⟩⟩)⟩, ⟨by (try simp only [hl223000_74]); (with_reducible repeat (first | apply Kd.R_alloc | apply Kd.R_drewN | apply Kd.R_drew)); exact Kd.R_mono HO_223000.out (fun _ hk => ⟨hk.2.2.1, ⟨hk.2.2.2, hk.2.1⟩⟩)⟩, ⟨by (try simp only [hl223000_74]); (with_reducible repeat (first | apply Kd.R_alloc | apply Kd.R_drewN | apply Kd.R_drew)); exact Kd.R_mono HO_231000.out (fun _ hk => ⟨hk.2.2.1, ⟨hk.2.2.2, hk.2.1⟩⟩)⟩, ⟨by (try simp only [hl223000_74]); (with_reducible repeat (first | apply Kd.R_alloc | apply Kd.R_drewN | apply Kd.R_drew)); exact Kd.R_mono HO250.out (fun _ hk => ⟨hk.2.1, ⟨hk.2.2.1, hk.2.2.2⟩⟩)⟩, ⟨by (try simp only [hl223000_74]); (with_reducible repeat (first | refine blk_drewN ?_ _ | refine blk_drew ?_ | refine blk_alloc ?_ _)); exact BK205.out⟩, ⟨by (try simp only [hl223000_74]); (with_reducible repeat (first | refine blk_drewN ?_ _ | refine blk_drew ?_ | refine blk_alloc ?_ _)); exact BK206.out⟩, ⟨by (try simp only [hl223000_74]); (with_reducible repeat (first | refine blk_drewN ?_ _ | refine blk_drew ?_ | refine blk_alloc ?_ _)); exact BK218.out⟩, ⟨by (try simp only [hl223000_74]); (with_reducible repeat (first | refine blk_drewN ?_ _ | refine blk_drew ?_ | refine blk_alloc ?_ _)); exact BK222.out⟩, ⟨by (try simp only [hl223000_74]); (with_reducible repeat (first | refine blk_drewN ?_ _ | refine blk_drew ?_ | refine blk_alloc ?_ _)); exact BK230.out⟩, ⟨by (try simp only [hl223000_74]); (with_reducible repeat (first | refine blk_drewN ?_ _ | refine blk_drew ?_ | refine blk_alloc ?_ _)); exact BK252.out⟩, ⟨hB HB.out⟩⟩
            ·replace c144 := Bool.eq_false_iff.mpr c144
             subst c144
             have H1 : (laws_FnExactAddClue.j2 kj74 t239 true t240) = some r := by rw [if_neg (show ¬ (false = true) by decide)] at H; exact H
             clear H
             have H := H1
             clear H1
             have H' := Aside0.mk H
             clear H
             have hnb157 := NB252_205.out
             have hnc157 := NB205_252.out
             have hnb158 := NB252_206.out
             have hnc158 := NB206_252.out
             have hnb159 := NB252_218.out
             have hnc159 := NB218_252.out
             have hnb160 := NB252_222.out
             have hnc160 := NB222_252.out
             have hnb161 := NB252_230.out
             have hnc161 := NB230_252.out
             have hcz162_0 : w140.cell? ⟨gb252, 0, none⟩ = some (.slice none 0 0) := (blk_cell BK252.out 0).trans rfl
             have hfz162_0 := blk_frozen BK252.out 0
             have hnb163 := NB218_205.out
             have hnc163 := NB205_218.out
             have hnb164 := NB218_206.out
             have hnc164 := NB206_218.out
             have hnb165 := NB218_222.out
             have hnc165 := NB222_218.out
             have hnb166 := NB218_230.out
             have hnc166 := NB230_218.out
             have hcz167_0 : w140.cell? ⟨gb218, 0, none⟩ = some (.slice Ao29 t214.length co29) := (blk_cell BK218.out 0).trans rfl
             have hfz167_0 := blk_frozen BK218.out 0
             go_wp2_with (first | ((with_reducible refine gate_callee (f := 19) rfl ?_); refine goesL_ (some 89) rfl rfl Try.func19 (by kernel_rfl) rfl #[.agg #[.slice Ao141 t248.length co141], .agg #[.slice Ao29 t214.length co29]] rfl (by (try simp only [List.map_toArray, List.map_cons, List.map_nil]); first | done | rfl | (simp only [List.length_drop, List.length_take]; rfl)) ?_; (with_reducible refine (laws_eqPuzzle.calls kj74 _ _ t248 _ _ t214 false _ ?side1 ?side2 ?side3 ?side4 A143.out).mono ?_); (case side1 => refine (Kd.R_reads' (e := 39) (base := w.heap.size) (ok := fun k_ => (some k_ ≠ (v243 : Value).ownBlock ∧ (some k_ ≠ (.slice Ao29 t214.length co29 : Value).ownBlock ∧ (some k_ ≠ (.slice Ao35 t237.length co35 : Value).ownBlock ∧ some k_ ≠ (.slice Ao46 t226.length co46 : Value).ownBlock)))) (n := t248.length) (c := co141) ?_).2.2; exact (rk (Kd.R_mono (Kd.R_far (p := ⟨gb252, 0, none⟩) (Kd.R_types HO250.out BK252.out (by decide)) (fun _ hk => hk.2) (.slice Ao141 t248.length co141)) (fun _ h_ => h_.1)))); (case side2 => exact (Kd.R_reads' HO250.out).2.1); (case side3 => refine (Kd.R_reads' (e := 39) (base := w.heap.size) (ok := fun k_ => (some k_ ≠ (v243 : Value).ownBlock ∧ (some k_ ≠ (.slice Ao141 t248.length co141 : Value).ownBlock ∧ (some k_ ≠ (.slice Ao35 t237.length co35 : Value).ownBlock ∧ some k_ ≠ (.slice Ao46 t226.length co46 : Value).ownBlock)))) (n := t214.length) (c := co29) ?_).2.2; exact (rk (Kd.R_mono (Kd.R_far (p := ⟨gb252, 0, none⟩) (Kd.R_types HO_219000.out BK252.out (by decide)) (fun _ hk => hk.2) (.slice Ao141 t248.length co141)) (fun _ h_ => h_.1)))); (case side4 => exact (Kd.R_reads' HO_219000.out).2.1); rintro e w168 ⟨rfl, hb⟩; refine ⟨_, rfl, ?_⟩; have n0_ := Aside0.mk (Kd.R_below (rk (Kd.R_mono (Kd.R_far (p := ⟨gb252, 0, none⟩) (Kd.R_types HO_219000.out BK252.out (by decide)) (fun _ hk => hk.2) (.slice Ao141 t248.length co141)) (fun _ h_ => h_.1))) hb); have n1_ := Aside0.mk (Kd.R_below (rk (Kd.R_mono (Kd.R_far (p := ⟨gb252, 0, none⟩) (Kd.R_types HO_223000.out BK252.out (by decide)) (fun _ hk => hk.2) (.slice Ao141 t248.length co141)) (fun _ h_ => h_.1))) hb); have n2_ := Aside0.mk (Kd.R_below (rk (Kd.R_mono (Kd.R_far (p := ⟨gb252, 0, none⟩) (Kd.R_types HO_231000.out BK252.out (by decide)) (fun _ hk => hk.2) (.slice Ao141 t248.length co141)) (fun _ h_ => h_.1))) hb); have n3_ := Aside0.mk (Kd.R_below (rk (Kd.R_mono (Kd.R_far (p := ⟨gb252, 0, none⟩) (Kd.R_types HO244.out BK252.out (by decide)) (fun _ hk => hk.2) (.slice Ao141 t248.length co141)) (fun _ h_ => h_.1))) hb); have n4_ := Aside0.mk (Kd.R_below (rk (Kd.R_mono (Kd.R_far (p := ⟨gb252, 0, none⟩) (Kd.R_types HO250.out BK252.out (by decide)) (fun _ hk => hk.2) (.slice Ao141 t248.length co141)) (fun _ h_ => h_.1))) hb); have n5_ := Aside0.mk (blk_below (g := gb205) (o := .cells #[.slice A0_0 l0_0.length c0_0] 24 (0, 0)) (by (with_reducible repeat (first | refine blk_drewN ?_ _ | refine blk_drew ?_ | refine blk_alloc ?_ _)); refine blk_far ?_ NB205_252.out _; (with_reducible repeat (first | refine blk_drewN ?_ _ | refine blk_drew ?_ | refine blk_alloc ?_ _)); exact BK205.out) hb); have n6_ := Aside0.mk (blk_below (g := gb206) (o := .cells #[.int .i64 a1_0, .int .i64 a1_1, .int .i64 a1_2] 34 (0, 0)) (by (with_reducible repeat (first | refine blk_drewN ?_ _ | refine blk_drew ?_ | refine blk_alloc ?_ _)); refine blk_far ?_ NB206_252.out _; (with_reducible repeat (first | refine blk_drewN ?_ _ | refine blk_drew ?_ | refine blk_alloc ?_ _)); exact BK206.out) hb); have n7_ := Aside0.mk (blk_below (g := gb218) (o := .cells #[.slice Ao29 t214.length co29] 29 (0, 0)) (by (with_reducible repeat (first | refine blk_drewN ?_ _ | refine blk_drew ?_ | refine blk_alloc ?_ _)); refine blk_far ?_ NB218_252.out _; (with_reducible repeat (first | refine blk_drewN ?_ _ | refine blk_drew ?_ | refine blk_alloc ?_ _)); exact BK218.out) hb); have n8_ := Aside0.mk (blk_below (g := gb222) (o := .cells #[.slice Ao35 t237.length co35] 29 (0, 0)) (by (with_reducible repeat (first | refine blk_drewN ?_ _ | refine blk_drew ?_ | refine blk_alloc ?_ _)); refine blk_far ?_ NB222_252.out _; (with_reducible repeat (first | refine blk_drewN ?_ _ | refine blk_drew ?_ | refine blk_alloc ?_ _)); exact BK222.out) hb); have n9_ := Aside0.mk (blk_below (g := gb230) (o := .cells #[.slice Ao46 t226.length co46] 29 (0, 0)) (by (with_reducible repeat (first | refine blk_drewN ?_ _ | refine blk_drew ?_ | refine blk_alloc ?_ _)); refine blk_far ?_ NB230_252.out _; (with_reducible repeat (first | refine blk_drewN ?_ _ | refine blk_drew ?_ | refine blk_alloc ?_ _)); exact BK230.out) hb); have n10_ := Aside0.mk (blk_below (g := gb252) (o := .cells #[.slice Ao141 t248.length co141] 29 (0, 0)) (by (with_reducible repeat (first | refine blk_drewN ?_ _ | refine blk_drew ?_ | refine blk_alloc ?_ _)); refine blk_put (cs := #[.slice none 0 0]) ?_ 0 _ rfl; (with_reducible repeat (first | refine blk_drewN ?_ _ | refine blk_drew ?_ | refine blk_alloc ?_ _)); exact BK252.out) hb); have n11_ := Aside0.mk (below_step (hB HB.out) hb); clear HO_219000; clear HO_223000; clear HO_231000; clear HO244; clear HO250; clear BK205; clear BK206; clear BK218; clear BK222; clear BK230; clear BK252; clear HB; have HO_219000 := n0_; have HO_223000 := n1_; have HO_231000 := n2_; have HO244 := n3_; have HO250 := n4_; have BK205 := n5_; have BK206 := n6_; have BK218 := n7_; have BK222 := n8_; have BK230 := n9_; have BK252 := n10_; have HB := n11_; clear n0_ n1_ n2_ n3_ n4_ n5_ n6_ n7_ n8_ n9_ n10_ n11_; (try clear hb); (try clear hb2); (try clear hk); (try clear hi)))
             go_meet
             case rel => exact ⟨_, (true), (by first | rfl | (simp; done) | (simp [*]; done)), H', ⟨by have := HJ15.out; have := HJ74.out; first | omega | exact Nat.le_refl _⟩, ⟨by (try simp only [hl223000_74]); (with_reducible repeat (first | apply Kd.R_alloc | apply Kd.R_drewN | apply Kd.R_drew)); exact Kd.R_mono HO_219000.out (fun _ hk => ⟨hk.2.2.1, ⟨hk.2.2.2, hk.2.1⟩⟩)⟩, ⟨by (try simp only [hl223000_74]); (with_reducible repeat (first | apply Kd.R_alloc | apply Kd.R_drewN | apply Kd.R_drew)); exact Kd.R_mono HO_223000.out (fun _ hk => ⟨hk.2.2.1, ⟨hk.2.2.2, hk.2.1⟩⟩)⟩, ⟨by (try simp only [hl223000_74]); (with_reducible repeat (first | apply Kd.R_alloc | apply Kd.R_drewN | apply Kd.R_drew)); exact Kd.R_mono HO_231000.out (fun _ hk => ⟨hk.2.2.1, ⟨hk.2.2.2, hk.2.1⟩⟩)⟩, ⟨by (try simp only [hl223000_74]); (with_reducible repeat (first | apply Kd.R_alloc | apply Kd.R_drewN | apply Kd.R_drew)); exact Kd.R_mono HO250.out (fun _ hk => ⟨hk.2.1, ⟨hk.2.2.1, hk.2.2.2⟩⟩)⟩, ⟨by (try simp only [hl223000_74]); (with_reducible repeat (first | refine blk_drewN ?_ _ | refine blk_drew ?_ | refine blk_alloc ?_ _)); exact BK205.out⟩, ⟨by (try simp only [hl223000_74]); (with_reducible repeat (first | refine blk_drewN ?_ _ | refine blk_drew ?_ | refine blk_alloc ?_ _)); exact BK206.out⟩, ⟨by (try simp only [hl223000_74]); (with_reducible repeat (first | refine blk_drewN ?_ _ | refine blk_drew ?_ | refine blk_alloc ?_ _)); exact BK218.out⟩, ⟨by (try simp only [hl223000_74]); (with_reducible repeat (first | refine blk_drewN ?_ _ | refine blk_drew ?_ | refine blk_alloc ?_ _)); exact BK222.out⟩, ⟨by (try simp only [hl223000_74]); (with_reducible repeat (first | refine blk_drewN ?_ _ | refine blk_drew ?_ | refine blk_alloc ?_ _)); exact BK230.out⟩, ⟨by (try simp only [hl223000_74]); (with_reducible repeat (first | refine blk_drewN ?_ _ | refine blk_drew ?_ | refine blk_alloc ?_ _)); exact BK252.out⟩, ⟨hB HB.out⟩⟩
           case rest =>
            clear HC125
            try clear c1
            try clear c2
            try clear p2
            try clear c14
            try clear c15
            try clear c16
            try clear c17
            try clear c19
            try clear c21
            try clear c25
            try clear c144
            try clear c145
            try clear c146
            try clear c147
            try clear c148
            try clear c149
            try clear c151
            try clear c152
            try clear c153
            try clear c154
            try clear c157
            try clear c158
            try clear c159
            try clear c160
            try clear c161
            try clear c163
            try clear c164
            try clear c165
            try clear c166
            try clear hcz150_0
            try clear hcz155_0
            try clear hcz162_0
            try clear hcz167_0
            try clear hfz150_0
            try clear hfz155_0
            try clear hfz162_0
            try clear hfz167_0
            obtain ⟨kq, x95_124, rfl, HA, HJ124, HO_219000, HO_223000, HO_231000, HO_253000, BK205, BK206, BK218, BK222, BK230, BK252, HB⟩ := hcut
            have hl231000_124 := (Kd.R_reads' HO_231000.out).1
            rw [hl231000_124] at HO_231000
            (try simp only [hl231000_124])
            (try simp only [hl231000_124] at BK205)
            (try simp only [hl231000_124] at BK206)
            (try simp only [hl231000_124] at BK218)
            (try simp only [hl231000_124] at BK222)
            (try simp only [hl231000_124] at BK230)
            (try simp only [hl231000_124] at BK252)
            (try simp only [hl231000_124] at HO_219000)
            (try simp only [hl231000_124] at HO_223000)
            (try simp only [hl231000_124] at HO_253000)
            cases kq with
            | zero => exact absurd HA.out (by simp [laws_FnExactAddClue.j2])
            | succ kj124 =>
             have H := HA.out
             clear HA
             simp only [laws_FnExactAddClue.j2] at H
             by_cases c169 : x95_124 = true
             ·subst c169
              have H1 : (some false) = some r := by rw [if_pos rfl] at H; exact H
              clear H
              have H := H1
              clear H1
              obtain rfl := Option.some.inj H
              go_wp2
              go_ret
              exact ⟨by first | rfl | (simp [errW_none, errW_some] <;> rfl) | (simp [*, errW_none, errW_some] <;> rfl), hB HB.out⟩
             ·replace c169 := Bool.eq_false_iff.mpr c169
              subst c169
              have H1 : ((laws_heldPuzzle.f kj124 t240 1).bind fun t254 => (if t254 < 0 then (some false) else (if t254 = t239 then (some true) else (some false)))) = some r := by rw [if_neg (show ¬ (false = true) by decide)] at H; exact H
              clear H
              have H := H1
              clear H1
              replace H := Option.bind_eq_some_iff.mp H
              obtain ⟨t254, A1700, H⟩ := H
              replace H : (if t254 < 0 then (some false) else (if t254 = t239 then (some true) else (some false))) = some r := H
              have A170 := Aside0.mk A1700
              clear A1700
              by_cases c171 : t254 < 0
              ·rw [if_pos c171] at H
               have c171b0 : decide (t254 < 0) = true := decide_eq_true c171
               clear c171
               obtain rfl := Option.some.inj H
               have hnb172 := NB230_205.out
               have hnc172 := NB205_230.out
               have hnb173 := NB230_206.out
               have hnc173 := NB206_230.out
               have hnb174 := NB230_218.out
               have hnc174 := NB218_230.out
               have hnb175 := NB230_222.out
               have hnc175 := NB222_230.out
               have hnb176 := NB230_252.out
               have hnc176 := NB252_230.out
               have hcz177_0 : wc.cell? ⟨gb230, 0, none⟩ = some (.slice Ao46 t240.length co46) := (blk_cell BK230.out 0).trans rfl
               have hfz177_0 := blk_frozen BK230.out 0
               go_wp2_with (first | ((with_reducible refine gate_callee (f := 27) rfl ?_); refine goesL_ (some 98) rfl rfl Try.func27 (by kernel_rfl) rfl #[.agg #[.slice Ao46 t240.length co46], .int .i64 1] rfl (by (try simp only [List.map_toArray, List.map_cons, List.map_nil]); first | done | rfl | (simp only [List.length_drop, List.length_take]; rfl)) ?_; (with_reducible refine (laws_heldPuzzle.calls kj124 _ _ t240 1 t254 _ ?side1 ?side2 A170.out).mono ?_); (case side1 => repeat (first | exact (Kd.R_reads' HO_231000.out).2.2 | (with_reducible refine Kd.C_alloc ?_ _) | (with_reducible refine Kd.C_drewN ?_ _) | (with_reducible refine Kd.C_drew ?_))); (case side2 => exact (Kd.R_reads' HO_231000.out).2.1); rintro e w178 ⟨rfl, hb⟩; refine ⟨_, rfl, ?_⟩; have n0_ := Aside0.mk (Kd.R_below (rk HO_219000.out) hb); have n1_ := Aside0.mk (Kd.R_below (rk HO_223000.out) hb); have n2_ := Aside0.mk (Kd.R_below (rk HO_231000.out) hb); have n3_ := Aside0.mk (Kd.R_below (rk HO_253000.out) hb); have n4_ := Aside0.mk (blk_below (g := gb205) (o := .cells #[.slice A0_0 l0_0.length c0_0] 24 (0, 0)) (bk BK205.out) hb); have n5_ := Aside0.mk (blk_below (g := gb206) (o := .cells #[.int .i64 a1_0, .int .i64 a1_1, .int .i64 a1_2] 34 (0, 0)) (bk BK206.out) hb); have n6_ := Aside0.mk (blk_below (g := gb218) (o := .cells #[.slice Ao29 t214.length co29] 29 (0, 0)) (bk BK218.out) hb); have n7_ := Aside0.mk (blk_below (g := gb222) (o := .cells #[.slice Ao35 t237.length co35] 29 (0, 0)) (bk BK222.out) hb); have n8_ := Aside0.mk (blk_below (g := gb230) (o := .cells #[.slice Ao46 t240.length co46] 29 (0, 0)) (bk BK230.out) hb); have n9_ := Aside0.mk (blk_below (g := gb252) (o := .cells #[.slice Ao141 t248.length co141] 29 (0, 0)) (bk BK252.out) hb); have n10_ := Aside0.mk (below_step (hB HB.out) hb); clear HO_219000; clear HO_223000; clear HO_231000; clear HO_253000; clear BK205; clear BK206; clear BK218; clear BK222; clear BK230; clear BK252; clear HB; have HO_219000 := n0_; have HO_223000 := n1_; have HO_231000 := n2_; have HO_253000 := n3_; have BK205 := n4_; have BK206 := n5_; have BK218 := n6_; have BK222 := n7_; have BK230 := n8_; have BK252 := n9_; have HB := n10_; clear n0_ n1_ n2_ n3_ n4_ n5_ n6_ n7_ n8_ n9_ n10_; (try clear hb); (try clear hb2); (try clear hk); (try clear hi)))
               go_ret
               exact ⟨by first | rfl | (simp [errW_none, errW_some] <;> rfl) | (simp [*, errW_none, errW_some] <;> rfl), hB HB.out⟩
              ·rw [if_neg c171] at H
               have c171b0 : decide (t254 < 0) = false := decide_eq_false c171
               clear c171
               by_cases c179 : t254 = t239
               ·rw [if_pos c179] at H
                have c179b0 : (t254 == t239) = true := beq_iff_eq.mpr c179
                have c179b1 : (t254 != t239) = false := bne_eq_false_iff_eq.mpr c179
                clear c179
                obtain rfl := Option.some.inj H
                have hnb180 := NB230_205.out
                have hnc180 := NB205_230.out
                have hnb181 := NB230_206.out
                have hnc181 := NB206_230.out
                have hnb182 := NB230_218.out
                have hnc182 := NB218_230.out
                have hnb183 := NB230_222.out
                have hnc183 := NB222_230.out
                have hnb184 := NB230_252.out
                have hnc184 := NB252_230.out
                have hcz185_0 : wc.cell? ⟨gb230, 0, none⟩ = some (.slice Ao46 t240.length co46) := (blk_cell BK230.out 0).trans rfl
                have hfz185_0 := blk_frozen BK230.out 0
                go_wp2_with (first | ((with_reducible refine gate_callee (f := 27) rfl ?_); refine goesL_ (some 98) rfl rfl Try.func27 (by kernel_rfl) rfl #[.agg #[.slice Ao46 t240.length co46], .int .i64 1] rfl (by (try simp only [List.map_toArray, List.map_cons, List.map_nil]); first | done | rfl | (simp only [List.length_drop, List.length_take]; rfl)) ?_; (with_reducible refine (laws_heldPuzzle.calls kj124 _ _ t240 1 t254 _ ?side1 ?side2 A170.out).mono ?_); (case side1 => repeat (first | exact (Kd.R_reads' HO_231000.out).2.2 | (with_reducible refine Kd.C_alloc ?_ _) | (with_reducible refine Kd.C_drewN ?_ _) | (with_reducible refine Kd.C_drew ?_))); (case side2 => exact (Kd.R_reads' HO_231000.out).2.1); rintro e w186 ⟨rfl, hb⟩; refine ⟨_, rfl, ?_⟩; have n0_ := Aside0.mk (Kd.R_below (rk HO_219000.out) hb); have n1_ := Aside0.mk (Kd.R_below (rk HO_223000.out) hb); have n2_ := Aside0.mk (Kd.R_below (rk HO_231000.out) hb); have n3_ := Aside0.mk (Kd.R_below (rk HO_253000.out) hb); have n4_ := Aside0.mk (blk_below (g := gb205) (o := .cells #[.slice A0_0 l0_0.length c0_0] 24 (0, 0)) (bk BK205.out) hb); have n5_ := Aside0.mk (blk_below (g := gb206) (o := .cells #[.int .i64 a1_0, .int .i64 a1_1, .int .i64 a1_2] 34 (0, 0)) (bk BK206.out) hb); have n6_ := Aside0.mk (blk_below (g := gb218) (o := .cells #[.slice Ao29 t214.length co29] 29 (0, 0)) (bk BK218.out) hb); have n7_ := Aside0.mk (blk_below (g := gb222) (o := .cells #[.slice Ao35 t237.length co35] 29 (0, 0)) (bk BK222.out) hb); have n8_ := Aside0.mk (blk_below (g := gb230) (o := .cells #[.slice Ao46 t240.length co46] 29 (0, 0)) (bk BK230.out) hb); have n9_ := Aside0.mk (blk_below (g := gb252) (o := .cells #[.slice Ao141 t248.length co141] 29 (0, 0)) (bk BK252.out) hb); have n10_ := Aside0.mk (below_step (hB HB.out) hb); clear HO_219000; clear HO_223000; clear HO_231000; clear HO_253000; clear BK205; clear BK206; clear BK218; clear BK222; clear BK230; clear BK252; clear HB; have HO_219000 := n0_; have HO_223000 := n1_; have HO_231000 := n2_; have HO_253000 := n3_; have BK205 := n4_; have BK206 := n5_; have BK218 := n6_; have BK222 := n7_; have BK230 := n8_; have BK252 := n9_; have HB := n10_; clear n0_ n1_ n2_ n3_ n4_ n5_ n6_ n7_ n8_ n9_ n10_; (try clear hb); (try clear hb2); (try clear hk); (try clear hi)))
                go_ret
                exact ⟨by first | rfl | (simp [errW_none, errW_some] <;> rfl) | (simp [*, errW_none, errW_some] <;> rfl), hB HB.out⟩
               ·rw [if_neg c179] at H
                have c179b0 : (t254 == t239) = false := beq_eq_false_iff_ne.mpr c179
                have c179b1 : (t254 != t239) = true := bne_iff_ne.mpr c179
                obtain rfl := Option.some.inj H
                have hnb187 := NB230_205.out
                have hnc187 := NB205_230.out
                have hnb188 := NB230_206.out
                have hnc188 := NB206_230.out
                have hnb189 := NB230_218.out
                have hnc189 := NB218_230.out
                have hnb190 := NB230_222.out
                have hnc190 := NB222_230.out
                have hnb191 := NB230_252.out
                have hnc191 := NB252_230.out
                have hcz192_0 : wc.cell? ⟨gb230, 0, none⟩ = some (.slice Ao46 t240.length co46) := (blk_cell BK230.out 0).trans rfl
                have hfz192_0 := blk_frozen BK230.out 0
                go_wp2_with (first | ((with_reducible refine gate_callee (f := 27) rfl ?_); refine goesL_ (some 98) rfl rfl Try.func27 (by kernel_rfl) rfl #[.agg #[.slice Ao46 t240.length co46], .int .i64 1] rfl (by (try simp only [List.map_toArray, List.map_cons, List.map_nil]); first | done | rfl | (simp only [List.length_drop, List.length_take]; rfl)) ?_; (with_reducible refine (laws_heldPuzzle.calls kj124 _ _ t240 1 t254 _ ?side1 ?side2 A170.out).mono ?_); (case side1 => repeat (first | exact (Kd.R_reads' HO_231000.out).2.2 | (with_reducible refine Kd.C_alloc ?_ _) | (with_reducible refine Kd.C_drewN ?_ _) | (with_reducible refine Kd.C_drew ?_))); (case side2 => exact (Kd.R_reads' HO_231000.out).2.1); rintro e w193 ⟨rfl, hb⟩; refine ⟨_, rfl, ?_⟩; have n0_ := Aside0.mk (Kd.R_below (rk HO_219000.out) hb); have n1_ := Aside0.mk (Kd.R_below (rk HO_223000.out) hb); have n2_ := Aside0.mk (Kd.R_below (rk HO_231000.out) hb); have n3_ := Aside0.mk (Kd.R_below (rk HO_253000.out) hb); have n4_ := Aside0.mk (blk_below (g := gb205) (o := .cells #[.slice A0_0 l0_0.length c0_0] 24 (0, 0)) (bk BK205.out) hb); have n5_ := Aside0.mk (blk_below (g := gb206) (o := .cells #[.int .i64 a1_0, .int .i64 a1_1, .int .i64 a1_2] 34 (0, 0)) (bk BK206.out) hb); have n6_ := Aside0.mk (blk_below (g := gb218) (o := .cells #[.slice Ao29 t214.length co29] 29 (0, 0)) (bk BK218.out) hb); have n7_ := Aside0.mk (blk_below (g := gb222) (o := .cells #[.slice Ao35 t237.length co35] 29 (0, 0)) (bk BK222.out) hb); have n8_ := Aside0.mk (blk_below (g := gb230) (o := .cells #[.slice Ao46 t240.length co46] 29 (0, 0)) (bk BK230.out) hb); have n9_ := Aside0.mk (blk_below (g := gb252) (o := .cells #[.slice Ao141 t248.length co141] 29 (0, 0)) (bk BK252.out) hb); have n10_ := Aside0.mk (below_step (hB HB.out) hb); clear HO_219000; clear HO_223000; clear HO_231000; clear HO_253000; clear BK205; clear BK206; clear BK218; clear BK222; clear BK230; clear BK252; clear HB; have HO_219000 := n0_; have HO_223000 := n1_; have HO_231000 := n2_; have HO_253000 := n3_; have BK205 := n4_; have BK206 := n5_; have BK218 := n6_; have BK222 := n7_; have BK230 := n8_; have BK252 := n9_; have HB := n10_; clear n0_ n1_ n2_ n3_ n4_ n5_ n6_ n7_ n8_ n9_ n10_; (try clear hb); (try clear hb2); (try clear hk); (try clear hi)))
                go_ret
                exact ⟨by first | rfl | (simp [errW_none, errW_some] <;> rfl) | (simp [*, errW_none, errW_some] <;> rfl), hB HB.out⟩
          ·rw [if_neg c121] at H
           have c121b0 : (t241 == t239) = false := beq_eq_false_iff_ne.mpr c121
           have c121b1 : (t241 != t239) = true := bne_iff_ne.mpr c121
           obtain rfl := Option.some.inj H
           have hnb194 := NB230_205.out
           have hnc194 := NB205_230.out
           have hnb195 := NB230_206.out
           have hnc195 := NB206_230.out
           have hnb196 := NB230_218.out
           have hnc196 := NB218_230.out
           have hnb197 := NB230_222.out
           have hnc197 := NB222_230.out
           have hcz198_0 : wc.cell? ⟨gb230, 0, none⟩ = some (.slice Ao46 t226.length co46) := (blk_cell BK230.out 0).trans rfl
           have hfz198_0 := blk_frozen BK230.out 0
           go_wp2_with (first | ((with_reducible refine gate_callee (f := 26) rfl ?_); refine goesL_ (some 70) rfl rfl Try.func26 (by kernel_rfl) rfl #[.agg #[.slice Ao46 t226.length co46], .int .i64 1] rfl (by (try simp only [List.map_toArray, List.map_cons, List.map_nil]); first | done | rfl | (simp only [List.length_drop, List.length_take]; rfl)) ?_; (with_reducible refine (laws_markPuzzle.calls kj74 (fun k_ => some k_ = (.slice Ao46 t226.length co46 : Value).ownBlock) (.slice Ao46 t226.length co46) t226 1 t239 t240 w _ ?side1 ?side2 A110.out).mono ?_); (case side1 => repeat (first | (with_reducible first | exact HB.out | apply below_alloc | apply pw_below_drewN | apply below_drew1 | refine below_set ?_ GE205.out | refine below_set ?_ GE206.out | refine below_set ?_ GE218.out | refine below_set ?_ GE222.out | refine below_set ?_ GE230.out) | exact HB.out)); (case side2 => exact Kd.R_tight rfl HO_231000.out); rintro e w199 ⟨rfl, hy0, hb, hkp⟩; refine ⟨_, rfl, ?_⟩; have n0_ := Aside0.mk (Kd.R_mono (ok' := fun k_ => some k_ ≠ (.slice Ao35 t237.length co35 : Value).ownBlock ∧ some k_ ≠ (.slice Ao46 t226.length co46 : Value).ownBlock) (Kd.R_keptB (HO_219000.out) hkp (fun k_ hk_ hs_ => (hk_.2) hs_)) (fun k_ hk_ => ⟨hk_.1.1, hk_.1.2⟩)); have n1_ := Aside0.mk (Kd.R_mono (ok' := fun k_ => some k_ ≠ (.slice Ao29 t214.length co29 : Value).ownBlock ∧ some k_ ≠ (.slice Ao46 t226.length co46 : Value).ownBlock) (Kd.R_keptB (HO_223000.out) hkp (fun k_ hk_ hs_ => (hk_.2) hs_)) (fun k_ hk_ => ⟨hk_.1.1, hk_.1.2⟩)); have n2_ := Aside0.mk (Kd.R_reok rfl hy0 (fun k_ e_ => HO_231000.out.1 k_ e_)); have n3_ := Aside0.mk (blk_kept (bk BK205.out) hkp (fun hs_ => (fun e_ => (Kd.R_ne HO_231000.out BK205.out (by decide)) e_) hs_)); have n4_ := Aside0.mk (blk_kept (bk BK206.out) hkp (fun hs_ => (fun e_ => (Kd.R_ne HO_231000.out BK206.out (by decide)) e_) hs_)); have n5_ := Aside0.mk (blk_kept (bk BK218.out) hkp (fun hs_ => (fun e_ => (Kd.R_ne HO_231000.out BK218.out (by decide)) e_) hs_)); have n6_ := Aside0.mk (blk_kept (bk BK222.out) hkp (fun hs_ => (fun e_ => (Kd.R_ne HO_231000.out BK222.out (by decide)) e_) hs_)); have n7_ := Aside0.mk (blk_kept (bk BK230.out) hkp (fun hs_ => (fun e_ => (Kd.R_ne HO_231000.out BK230.out (by decide)) e_) hs_)); have n8_ := Aside0.mk (hb); clear HO_219000; clear HO_223000; clear HO_231000; clear BK205; clear BK206; clear BK218; clear BK222; clear BK230; clear HB; have HO_219000 := n0_; have HO_223000 := n1_; have HO_231000 := n2_; have BK205 := n3_; have BK206 := n4_; have BK218 := n5_; have BK222 := n6_; have BK230 := n7_; have HB := n8_; clear n0_ n1_ n2_ n3_ n4_ n5_ n6_ n7_ n8_; (try clear hb); (try clear hkp); (try clear hy0); have hcz200_0 : w199.cell? ⟨gb230, 0, none⟩ = some (.slice Ao46 t226.length co46) := (blk_cell BK230.out 0).trans rfl; have hfz200_0 := blk_frozen BK230.out 0) | ((with_reducible refine gate_callee (f := 27) rfl ?_); refine goesL_ (some 73) rfl rfl Try.func27 (by kernel_rfl) rfl #[.agg #[.slice Ao46 t240.length co46], .int .i64 1] rfl (by (try simp only [List.map_toArray, List.map_cons, List.map_nil]); first | done | (rw [show t240.length = t226.length from (Kd.R_reads' HO_231000.out).1.symm] <;> rfl) | rfl | (simp only [List.length_drop, List.length_take]; rfl)) ?_; (with_reducible refine (laws_heldPuzzle.calls kj74 _ _ t240 1 t241 _ ?side1 ?side2 A111.out).mono ?_); (case side1 => repeat (first | exact (Kd.R_reads' HO_231000.out).2.2 | (with_reducible refine Kd.C_alloc ?_ _) | (with_reducible refine Kd.C_drewN ?_ _) | (with_reducible refine Kd.C_drew ?_))); (case side2 => rw [show t240.length = t226.length from (Kd.R_reads' HO_231000.out).1.symm]; exact (Kd.R_reads' HO_231000.out).2.1); rintro e w201 ⟨rfl, hb⟩; refine ⟨_, rfl, ?_⟩; have n0_ := Aside0.mk (Kd.R_below (rk HO_219000.out) hb); have n1_ := Aside0.mk (Kd.R_below (rk HO_223000.out) hb); have n2_ := Aside0.mk (Kd.R_below (rk HO_231000.out) hb); have n3_ := Aside0.mk (blk_below (g := gb205) (o := .cells #[.slice A0_0 l0_0.length c0_0] 24 (0, 0)) (bk BK205.out) hb); have n4_ := Aside0.mk (blk_below (g := gb206) (o := .cells #[.int .i64 a1_0, .int .i64 a1_1, .int .i64 a1_2] 34 (0, 0)) (bk BK206.out) hb); have n5_ := Aside0.mk (blk_below (g := gb218) (o := .cells #[.slice Ao29 t214.length co29] 29 (0, 0)) (bk BK218.out) hb); have n6_ := Aside0.mk (blk_below (g := gb222) (o := .cells #[.slice Ao35 t237.length co35] 29 (0, 0)) (bk BK222.out) hb); have n7_ := Aside0.mk (blk_below (g := gb230) (o := .cells #[.slice Ao46 t226.length co46] 29 (0, 0)) (bk BK230.out) hb); have n8_ := Aside0.mk (below_step (hB HB.out) hb); clear HO_219000; clear HO_223000; clear HO_231000; clear BK205; clear BK206; clear BK218; clear BK222; clear BK230; clear HB; have HO_219000 := n0_; have HO_223000 := n1_; have HO_231000 := n2_; have BK205 := n3_; have BK206 := n4_; have BK218 := n5_; have BK222 := n6_; have BK230 := n7_; have HB := n8_; clear n0_ n1_ n2_ n3_ n4_ n5_ n6_ n7_ n8_; (try clear hb); (try clear hb2); (try clear hk); (try clear hi)))
           go_ret
           exact ⟨by first | rfl | (simp [errW_none, errW_some] <;> rfl) | (simp [*, errW_none, errW_some] <;> rfl), hB HB.out⟩
     ·replace c73 := Bool.eq_false_iff.mpr c73
      subst c73
      have H1 : (some false) = some r := by rw [if_neg (show ¬ (false = true) by decide)] at H; exact H
      clear H
      have H := H1
      clear H1
      obtain rfl := Option.some.inj H
      try go_wp2
      have n0_ := Aside0.mk (Kd.R_drew HO_219000.out)
      have n1_ := Aside0.mk (Kd.R_drew HO_223000.out)
      have n2_ := Aside0.mk (Kd.R_drew HO_231000.out)
      have n3_ := Aside0.mk (blk_drew BK205.out)
      have n4_ := Aside0.mk (blk_drew BK206.out)
      have n5_ := Aside0.mk (blk_drew BK218.out)
      have n6_ := Aside0.mk (blk_drew BK222.out)
      have n7_ := Aside0.mk (blk_drew BK230.out)
      have n8_ := Aside0.mk (below_drew1 HB.out)
      clear HO_219000
      clear HO_223000
      clear HO_231000
      clear BK205
      clear BK206
      clear BK218
      clear BK222
      clear BK230
      clear HB
      have HO_219000 := n0_
      have HO_223000 := n1_
      have HO_231000 := n2_
      have BK205 := n3_
      have BK206 := n4_
      have BK218 := n5_
      have BK222 := n6_
      have BK230 := n7_
      have HB := n8_
      clear n0_ n1_ n2_ n3_ n4_ n5_ n6_ n7_ n8_
      refine start_ (n := 5) (S := fun w' => w'.cell? ⟨gb222, 0, none⟩ = some (.slice Ao35 t219.length co35) ∧ w'.cell? ⟨gb205, 0, none⟩ = some (.slice A0_0 l0_0.length c0_0)) (ds := []) #[false, false, false, false, false] (by kernel_rfl) rfl rfl ⟨(blk_cell BK222.out 0).trans rfl, (blk_cell BK205.out 0).trans rfl⟩ (fun hHeld => ?_)
      generalize wc.drew = w202 at HO_219000 HO_223000 HO_231000 BK205 BK206 BK218 BK222 BK230 HB hHeld ⊢
      refine take_ (i := 0) (N := some 47) (v := ?_) (a' := ?_) #[true, false, false, false, false] rfl rfl (by kernel_rfl) (fun _ _ _ h => h) (Or.inl ⟨by rfl, ?_⟩) hHeld ?_ ?_
      rotate_left
      ·rintro w' ⟨s0, s1⟩
       go_simp
       with_reducible rfl
      rotate_left
      ·simp only [Act.put, List.setIfInBounds_toArray, List.set_cons_zero, List.set_cons_succ, i64_w, i32_w]
       rfl
      refine take_ (i := 1) (N := some 48) (v := ?_) (a' := ?_) #[true, true, false, false, false] rfl rfl (by kernel_rfl) (fun _ _ _ h => h) (Or.inl ⟨by rfl, ?_⟩) hHeld ?_ ?_
      rotate_left
      ·rintro w' ⟨s0, s1⟩
       go_simp
       with_reducible rfl
      rotate_left
      ·simp only [Act.put, List.setIfInBounds_toArray, List.set_cons_zero, List.set_cons_succ, i64_w, i32_w]
       rfl
      refine one_ (i := 2) (N := some 49) #[true, true, true, false, false] rfl rfl (by kernel_rfl) (by decide) (fun K hK => ?_)
      refine goes_ Try.func17 (by kernel_rfl) rfl #[.agg #[.slice A0_0 l0_0.length c0_0]] (by rfl) rfl rfl (by (try simp only [List.map_toArray, List.map_cons, List.map_nil]); first | done | rfl | (simp only [List.length_drop, List.length_take]; rfl)) ?_
      with_reducible refine (laws_toPuzzle.calls kj15 _ _ l0_0 t232 _ ?side1 ?side2 A71.out).mono ?_
      (case side1 => repeat (first | exact (Kd.C_below HR0_0.out HB.out) | (with_reducible refine Kd.C_alloc ?_ _) | (with_reducible refine Kd.C_drewN ?_ _) | (with_reducible refine Kd.C_drew ?_)))
      (case side2 => exact HC0_0.out)
      rintro e w203 ⟨v233, rfl, ho0, hb⟩
      refine ⟨_, rfl, ?_⟩
      have n0_ := Aside0.mk (Kd.R_elder' (rk HO_219000.out) (Kd.R_base ho0) hb)
      have n1_ := Aside0.mk (Kd.R_elder' (rk HO_223000.out) (Kd.R_base ho0) hb)
      have n2_ := Aside0.mk (Kd.R_elder' (rk HO_231000.out) (Kd.R_base ho0) hb)
      have n3_ := Aside0.mk (Kd.R_lower (Kd.R_new' (Kd.R_new' (Kd.R_new' ho0 (Kd.R_lt (rk HO_219000.out))) (Kd.R_lt (rk HO_223000.out))) (Kd.R_lt (rk HO_231000.out))) (below_size (hB HB.out)))
      have n4_ := Aside0.mk (blk_below (g := gb205) (o := .cells #[.slice A0_0 l0_0.length c0_0] 24 (0, 0)) (bk BK205.out) hb)
      have n5_ := Aside0.mk (blk_below (g := gb206) (o := .cells #[.int .i64 a1_0, .int .i64 a1_1, .int .i64 a1_2] 34 (0, 0)) (bk BK206.out) hb)
      have n6_ := Aside0.mk (blk_below (g := gb218) (o := .cells #[.slice Ao29 t214.length co29] 29 (0, 0)) (bk BK218.out) hb)
      have n7_ := Aside0.mk (blk_below (g := gb222) (o := .cells #[.slice Ao35 t219.length co35] 29 (0, 0)) (bk BK222.out) hb)
      have n8_ := Aside0.mk (blk_below (g := gb230) (o := .cells #[.slice Ao46 t226.length co46] 29 (0, 0)) (bk BK230.out) hb)
      have n9_ := Aside0.mk (below_step (hB HB.out) hb)
      clear HO_219000
      clear HO_223000
      clear HO_231000
      clear BK205
      clear BK206
      clear BK218
      clear BK222
      clear BK230
      clear HB
      have HO_219000 := n0_
      have HO_223000 := n1_
      have HO_231000 := n2_
      have HO234 := n3_
      have BK205 := n4_
      have BK206 := n5_
      have BK218 := n6_
      have BK222 := n7_
      have BK230 := n8_
      have HB := n9_
      clear n0_ n1_ n2_ n3_ n4_ n5_ n6_ n7_ n8_ n9_
      (try clear hb)
      (try clear hb2)
      (try clear hk)
      (try clear hi)
      (try clear ho0)
      obtain ⟨Ao204, co204, eo204⟩ := Kd.R_slice HO234.out
      (first | subst eo204 | (injection eo204 with f1_ f2_ f3_; have f4_ := f1_.symm; have f5_ := f3_.symm; clear f1_ f2_ f3_; subst f4_; subst f5_))
      refine hK.out _ _ ⟨(blk_cell BK222.out 0).trans rfl, (blk_cell BK205.out 0).trans rfl⟩ (fun hHeld => ?_)
      clear hK K
      refine norm_ (a' := ?_) ?_ ?_
      rotate_left
      ·show Act.put _ (some 49) _ = _
       simp only [Act.put, List.setIfInBounds_toArray, List.set_cons_zero, List.set_cons_succ, i64_w, i32_w]
       rfl
      refine one_ (i := 3) (N := some 50) #[true, true, true, true, false] rfl rfl (by kernel_rfl) (by decide) (fun K hK => ?_)
      refine goes_ Try.func19 (by kernel_rfl) rfl #[.agg #[.slice Ao35 t219.length co35], .agg #[.slice Ao204 t232.length co204]] (by rfl) rfl rfl (by (try simp only [List.map_toArray, List.map_cons, List.map_nil]); first | done | rfl | (simp only [List.length_drop, List.length_take]; rfl)) ?_
      with_reducible refine (laws_eqPuzzle.calls kj15 _ _ t219 _ _ t232 false _ ?side1 ?side2 ?side3 ?side4 A72.out).mono ?_
      (case side1 => repeat (first | exact (Kd.R_reads' HO_223000.out).2.2 | (with_reducible refine Kd.C_alloc ?_ _) | (with_reducible refine Kd.C_drewN ?_ _) | (with_reducible refine Kd.C_drew ?_)))
      (case side2 => exact (Kd.R_reads' HO_223000.out).2.1)
      (case side3 => repeat (first | exact (Kd.R_reads' HO234.out).2.2 | (with_reducible refine Kd.C_alloc ?_ _) | (with_reducible refine Kd.C_drewN ?_ _) | (with_reducible refine Kd.C_drew ?_)))
      (case side4 => exact (Kd.R_reads' HO234.out).2.1)
      rintro e w205 ⟨rfl, hb⟩
      refine ⟨_, rfl, ?_⟩
      have n0_ := Aside0.mk (Kd.R_below (rk HO_219000.out) hb)
      have n1_ := Aside0.mk (Kd.R_below (rk HO_223000.out) hb)
      have n2_ := Aside0.mk (Kd.R_below (rk HO_231000.out) hb)
      have n3_ := Aside0.mk (Kd.R_below (rk HO234.out) hb)
      have n4_ := Aside0.mk (blk_below (g := gb205) (o := .cells #[.slice A0_0 l0_0.length c0_0] 24 (0, 0)) (bk BK205.out) hb)
      have n5_ := Aside0.mk (blk_below (g := gb206) (o := .cells #[.int .i64 a1_0, .int .i64 a1_1, .int .i64 a1_2] 34 (0, 0)) (bk BK206.out) hb)
      have n6_ := Aside0.mk (blk_below (g := gb218) (o := .cells #[.slice Ao29 t214.length co29] 29 (0, 0)) (bk BK218.out) hb)
      have n7_ := Aside0.mk (blk_below (g := gb222) (o := .cells #[.slice Ao35 t219.length co35] 29 (0, 0)) (bk BK222.out) hb)
      have n8_ := Aside0.mk (blk_below (g := gb230) (o := .cells #[.slice Ao46 t226.length co46] 29 (0, 0)) (bk BK230.out) hb)
      have n9_ := Aside0.mk (below_step (hB HB.out) hb)
      clear HO_219000
      clear HO_223000
      clear HO_231000
      clear HO234
      clear BK205
      clear BK206
      clear BK218
      clear BK222
      clear BK230
      clear HB
      have HO_219000 := n0_
      have HO_223000 := n1_
      have HO_231000 := n2_
      have HO234 := n3_
      have BK205 := n4_
      have BK206 := n5_
      have BK218 := n6_
      have BK222 := n7_
      have BK230 := n8_
      have HB := n9_
      clear n0_ n1_ n2_ n3_ n4_ n5_ n6_ n7_ n8_ n9_
      (try clear hb)
      (try clear hb2)
      (try clear hk)
      (try clear hi)
      refine hK.out _ _ ⟨(blk_cell BK222.out 0).trans rfl, (blk_cell BK205.out 0).trans rfl⟩ (fun hHeld => ?_)
      clear hK K
      refine norm_ (a' := ?_) ?_ ?_
      rotate_left
      ·show Act.put _ (some 50) _ = _
       simp only [Act.put, List.setIfInBounds_toArray, List.set_cons_zero, List.set_cons_succ, i64_w, i32_w]
       rfl
      refine pure_ (i := 4) (N := some 51) (v := ?_) (a' := ?_) #[true, true, true, true, true] rfl rfl (by kernel_rfl) (fun _ _ _ h => h) (Or.inl ⟨by rfl, ?_⟩) ?_ ?_
      rotate_left
      ·intro w'
       go_simp
       with_reducible rfl
      rotate_left
      ·simp only [Act.put, List.setIfInBounds_toArray, List.set_cons_zero, List.set_cons_succ, i64_w, i32_w]
       rfl
      refine done_ (by kernel_rfl) ?_
      try go_wp2
      go_ret
      exact ⟨by first | rfl | (simp [errW_none, errW_some] <;> rfl) | (simp [*, errW_none, errW_some] <;> rfl), hB HB.out⟩

/-- THE ONE PURE STATEMENT of laws_FnExactAddClue: yours. -/
def laws_FnExactAddClue.Pure : Prop := ∀ (l0_0 : List (S34)) (a1_0 : Int) (a1_1 : Int) (a1_2 : Int), l0_0.length ≤ maxLen → (∀ x ∈ l0_0, (Lit.int .i64 x.f0).wf = true ∧ (Lit.int .i64 x.f1).wf = true ∧ (Lit.int .i64 x.f2).wf = true) → (Lit.int .i64 a1_0).wf = true → (Lit.int .i64 a1_1).wf = true → (Lit.int .i64 a1_2).wf = true → ∃ k, laws_FnExactAddClue.f k l0_0 a1_0 a1_1 a1_2 = some true

end Go.Proofs.Ytmfcpebojnikkaa.QFnExactAddClue
