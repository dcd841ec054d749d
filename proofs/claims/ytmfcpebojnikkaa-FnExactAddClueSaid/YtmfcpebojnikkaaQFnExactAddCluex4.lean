-- written by a program of this session, over the form of the kit's print
import Derived.Test.YtmfcpebojnikkaaQFnExactAddCluex0
import Derived.Test.YtmfcpebojnikkaaQFnExactAddCluex3
namespace Go.Proofs.Ytmfcpebojnikkaa.QFnExactAddClue
open Go.RowKit Go.Proofs.YtmfcpebojnikkaaV Go.Proofs.YtmfcpebojnikkaaW.PrintWords Go.Proofs.YtmfcpebojnikkaaW.PrintLast Go.Proofs.YtmfcpebojnikkaaW.PrintMore
attribute [local go_sem] max2_int min2_int max_two min_two max_three min_three max_four min_four   -- for this text's walks alone
set_option linter.unusedVariables false
set_option linter.unusedSimpArgs false

/-! ### impl_AddClue: function 25 -/
def impl_AddClue.f (k : Nat) (l0_0 : List (S39)) (a1_0 : Int) (a1_1 : Int) (a1_2 : Int) : Option ((List (S39)) × Bool) := (slices_Clone_impl_Clue_impl_Clue.f l0_0).bind fun t183 => ((some (([(⟨a1_0, a1_1, a1_2⟩ : S39)] : List (S39)) : List (S39))).bind fun y186 => (if t183.length + y186.length < 5864062014805 then ((some (t183 ++ y186 : List (S39))).bind fun y189 => ((impl_IsPuzzle.f k y189).bind fun t193 => (if t193 = true then (some (y189, true)) else (some (([] : List (S39)), false))))) else (none)))
theorem impl_AddClue.mono : ∀ a0 a1 a2 a3 k, LeO (impl_AddClue.f k a0 a1 a2 a3) (impl_AddClue.f (k + 1) a0 a1 a2 a3) := by
 intro a0 a1 a2 a3 k
 unfold impl_AddClue.f
 repeat' first
   | (with_reducible exact impl_IsPuzzle.mono _ _)
   | (with_reducible exact LeO.refl _)
   | (with_reducible exact LeO.none _)
   | (with_reducible refine LeO.ite ?_ ?_)
   | (with_reducible refine LeO.bind ?_ (fun _ => ?_))
   | exact impl_IsPuzzle.mono _ _
   | exact LeO.none _
   | refine LeO.ite ?_ ?_
   | refine LeO.bind ?_ (fun _ => ?_)
def impl_AddClue.T1 : Bool × List (List Nat × List Nat) := (true, [([], []), ([0], [0]), ([1], [1]), ([], []), ([3], [3]), ([2, 4, 2], [2, 4]), ([5], [5]), ([], []), ([7, 6, 5, 0, 1, 2, 3, 4, 5, 6, 7], [6, 7])])
def impl_AddClue.B1 : List Nat := [0, 1, 3, 0, 8, 31, 63, 0, 255]
theorem impl_AddClue.tab1 : rtab .any (opsOf Try.f25 1) = impl_AddClue.T1 := by kernel_rfl
theorem impl_AddClue.bits1 : waitsOk impl_AddClue.T1.2 impl_AddClue.B1 = true := by kernel_rfl
set_option maxHeartbeats 8000000 in
set_option maxRecDepth 100000 in
theorem impl_AddClue.calls (k : Nat) (A0_0 : Option Addr) (c0_0 : Nat) (l0_0 : List (S39)) (a1_0 : Int) (a1_1 : Int) (a1_2 : Int) (r1 : List (S39)) (r2 : Bool) (w : World) (hr0_0 : Kd.C k39 w A0_0 l0_0.length l0_0) (hc0_0 : l0_0.length ≤ c0_0) (h : impl_AddClue.f k l0_0 a1_0 a1_1 a1_2 = some (r1, r2)) :
  Calls Try.prog 25 #[.agg #[.slice A0_0 l0_0.length c0_0], .agg #[.int .i64 a1_0, .int .i64 a1_1, .int .i64 a1_2]] w fun e w' => ∃ v0_ : Value, e = .returned (.tuple #[.agg #[v0_], .bool r2]) ∧ Kd.R k39 39 w' w.heap.size (fun _ => True) v0_ r1 ∧ Below w.heap.size w w' := by
 have hu29 := Try.underlying29
 have hu39 := Try.underlying39
 have HR0_0 := Aside0.mk hr0_0
 have HC0_0 := Aside0.mk hc0_0
 clear hr0_0 hc0_0
 have HB := Aside0.mk (Below.refl w.heap.size w)
 have H : ((slices_Clone_impl_Clue_impl_Clue.f l0_0).bind fun t183 => ((some (([(⟨a1_0, a1_1, a1_2⟩ : S39)] : List (S39)) : List (S39))).bind fun y186 => (if t183.length + y186.length < 5864062014805 then ((some (t183 ++ y186 : List (S39))).bind fun y189 => ((impl_IsPuzzle.f k y189).bind fun t193 => (if t193 = true then (some (y189, true)) else (some (([] : List (S39)), false))))) else (none)))) = some (r1, r2) := h
 clear h
 replace H := Option.bind_eq_some_iff.mp H
 obtain ⟨t183, A30, H⟩ := H
 replace H : ((some (([(⟨a1_0, a1_1, a1_2⟩ : S39)] : List (S39)) : List (S39))).bind fun y186 => (if t183.length + y186.length < 5864062014805 then ((some (t183 ++ y186 : List (S39))).bind fun y189 => ((impl_IsPuzzle.f k y189).bind fun t193 => (if t193 = true then (some (y189, true)) else (some (([] : List (S39)), false))))) else (none))) = some (r1, r2) := H
 have A3 := Aside0.mk A30
 clear A30
 obtain ⟨y186, hy186⟩ : ∃ y_ : List (S39), y_ = (([(⟨a1_0, a1_1, a1_2⟩ : S39)] : List (S39))) := ⟨_, rfl⟩
 replace H : (if t183.length + y186.length < 5864062014805 then ((some (t183 ++ y186 : List (S39))).bind fun y189 => ((impl_IsPuzzle.f k y189).bind fun t193 => (if t193 = true then (some (y189, true)) else (some (([] : List (S39)), false))))) else (none)) = some (r1, r2) := by first | (rw [hy186]; with_reducible exact H) | (have H2_ := (Option.bind_some _ _).symm.trans H; rw [hy186]; with_reducible exact H2_) | (have H2_ := (Option.bind_some _ _).symm.trans H; with_reducible exact H2_) | with_reducible exact H | (rw [hy186]; exact H) | exact H
 have Ny186 := Aside0.mk hy186
 clear hy186
 by_cases c4 : t183.length + y186.length < 5864062014805
 ·rw [if_pos c4] at H
  have LMc4 := Aside0.mk c4
  clear c4
  obtain ⟨y189, hy189⟩ : ∃ y_ : List (S39), y_ = (t183 ++ y186) := ⟨_, rfl⟩
  replace H : ((impl_IsPuzzle.f k y189).bind fun t193 => (if t193 = true then (some (y189, true)) else (some (([] : List (S39)), false)))) = some (r1, r2) := by first | (rw [hy189]; with_reducible exact H) | (have H2_ := (Option.bind_some _ _).symm.trans H; rw [hy189]; with_reducible exact H2_) | (have H2_ := (Option.bind_some _ _).symm.trans H; with_reducible exact H2_) | with_reducible exact H | (rw [hy189]; exact H) | exact H
  have Ny189 := Aside0.mk hy189
  clear hy189
  replace H := Option.bind_eq_some_iff.mp H
  obtain ⟨t193, A50, H⟩ := H
  replace H : (if t193 = true then (some (y189, true)) else (some (([] : List (S39)), false))) = some (r1, r2) := H
  have A5 := Aside0.mk A50
  clear A50
  by_cases c6 : t193 = true
  ·subst c6
   have H1 : (some (y189, true)) = some (r1, r2) := by rw [if_pos rfl] at H; exact H
   clear H
   have H := H1
   clear H1
   simp only [Option.some.injEq, Prod.mk.injEq] at H
   obtain ⟨rfl, rfl⟩ := H
   go_enter Try.func25, Try.ntmps25
   try go_wp2_with (first | ((with_reducible refine gate_dst (N := 2) rfl ?_); refine box_event ?hg (N := 2) ?hd (cs := #[.slice A0_0 l0_0.length c0_0]) (t := 29) ?hr ?_; (case hd => rfl); (case hg => rfl); (case hr => first | (go_simp; done) | (go_simp; rfl)); intro gb180 hg w7 hbox hb; have n0_ := Aside0.mk (below_step (hB HB.out) hb); have n1_ := Aside0.mk (hbox); have n2_ := Aside0.mk ((by rw [hg]; exact (below_size (hB HB.out)) : w.heap.size ≤ gb180)); have n3_ := Aside0.mk ((by rw [hg]; exact (below_size (hB HB.out)) : w.heap.size ≤ gb180)); clear HB; have HB := n0_; have BK180 := n1_; have GW180 := n2_; have GE180 := n3_; clear n0_ n1_ n2_ n3_; clear hb hbox hg) | ((with_reducible refine gate_dst (N := 3) rfl ?_); refine box_event ?hg (N := 3) ?hd (cs := #[.int .i64 a1_0, .int .i64 a1_1, .int .i64 a1_2]) (t := 39) ?hr ?_; (case hd => rfl); (case hg => rfl); (case hr => first | (go_simp; done) | (go_simp; rfl)); intro gb181 hg w8 hbox hb; have n0_ := Aside0.mk (blk_below (g := gb180) (o := .cells #[.slice A0_0 l0_0.length c0_0] 29 (0, 0)) (bk BK180.out) hb); have n1_ := Aside0.mk (below_step (hB HB.out) hb); have n2_ := Aside0.mk (hbox); have n3_ := Aside0.mk ((by rw [hg]; exact (below_size (hB HB.out)) : w.heap.size ≤ gb181)); have n4_ := Aside0.mk ((by rw [hg]; exact (below_size (hB HB.out)) : w.heap.size ≤ gb181)); have n5_ := Aside0.mk ((by rw [hg]; exact Nat.ne_of_lt (blk_lt (g := gb180) (o := .cells #[.slice A0_0 l0_0.length c0_0] 29 (0, 0)) (bk BK180.out)) : gb180 ≠ gb181)); have n6_ := Aside0.mk ((by rw [hg]; exact Nat.ne_of_gt (blk_lt (g := gb180) (o := .cells #[.slice A0_0 l0_0.length c0_0] 29 (0, 0)) (bk BK180.out)) : gb181 ≠ gb180)); clear BK180; clear HB; have BK180 := n0_; have HB := n1_; have BK181 := n2_; have GW181 := n3_; have GE181 := n4_; have NB180_181 := n5_; have NB181_180 := n6_; clear n0_ n1_ n2_ n3_ n4_ n5_ n6_; clear hb hbox hg) | ((with_reducible refine gate_dst (N := 4) rfl ?_); refine box_event ?hg (N := 4) ?hd (cs := #[.slice none 0 0]) (t := 29) ?hr ?_; (case hd => rfl); (case hg => rfl); (case hr => first | (go_simp; done) | (go_simp; rfl)); intro gb182 hg w9 hbox hb; have n0_ := Aside0.mk (blk_below (g := gb180) (o := .cells #[.slice A0_0 l0_0.length c0_0] 29 (0, 0)) (bk BK180.out) hb); have n1_ := Aside0.mk (blk_below (g := gb181) (o := .cells #[.int .i64 a1_0, .int .i64 a1_1, .int .i64 a1_2] 39 (0, 0)) (bk BK181.out) hb); have n2_ := Aside0.mk (below_step (hB HB.out) hb); have n3_ := Aside0.mk (hbox); have n4_ := Aside0.mk ((by rw [hg]; exact (below_size (hB HB.out)) : w.heap.size ≤ gb182)); have n5_ := Aside0.mk ((by rw [hg]; exact (below_size (hB HB.out)) : w.heap.size ≤ gb182)); have n6_ := Aside0.mk ((by rw [hg]; exact Nat.ne_of_lt (blk_lt (g := gb180) (o := .cells #[.slice A0_0 l0_0.length c0_0] 29 (0, 0)) (bk BK180.out)) : gb180 ≠ gb182)); have n7_ := Aside0.mk ((by rw [hg]; exact Nat.ne_of_gt (blk_lt (g := gb180) (o := .cells #[.slice A0_0 l0_0.length c0_0] 29 (0, 0)) (bk BK180.out)) : gb182 ≠ gb180)); have n8_ := Aside0.mk ((by rw [hg]; exact Nat.ne_of_lt (blk_lt (g := gb181) (o := .cells #[.int .i64 a1_0, .int .i64 a1_1, .int .i64 a1_2] 39 (0, 0)) (bk BK181.out)) : gb181 ≠ gb182)); have n9_ := Aside0.mk ((by rw [hg]; exact Nat.ne_of_gt (blk_lt (g := gb181) (o := .cells #[.int .i64 a1_0, .int .i64 a1_1, .int .i64 a1_2] 39 (0, 0)) (bk BK181.out)) : gb182 ≠ gb181)); clear BK180; clear BK181; clear HB; have BK180 := n0_; have BK181 := n1_; have HB := n2_; have BK182 := n3_; have GW182 := n4_; have GE182 := n5_; have NB180_182 := n6_; have NB182_180 := n7_; have NB181_182 := n8_; have NB182_181 := n9_; clear n0_ n1_ n2_ n3_ n4_ n5_ n6_ n7_ n8_ n9_; clear hb hbox hg))
   have n0_ := Aside0.mk (blk_drew BK180.out)
   have n1_ := Aside0.mk (blk_drew BK181.out)
   have n2_ := Aside0.mk (blk_drew BK182.out)
   have n3_ := Aside0.mk (below_drew1 HB.out)
   clear BK180
   clear BK181
   clear BK182
   clear HB
   have BK180 := n0_
   have BK181 := n1_
   have BK182 := n2_
   have HB := n3_
   clear n0_ n1_ n2_ n3_
   refine start_ (n := 9) (S := fun w' => w'.cell? ⟨gb180, 0, none⟩ = some (.slice A0_0 l0_0.length c0_0) ∧ w'.cell? ⟨gb181, 0, none⟩ = some (.int .i64 a1_0) ∧ w'.cell? ⟨gb181, 1, none⟩ = some (.int .i64 a1_1) ∧ w'.cell? ⟨gb181, 2, none⟩ = some (.int .i64 a1_2)) (ds := []) #[false, false, false, false, false, false, false, false, false] (by kernel_rfl) rfl rfl ⟨(blk_cell BK180.out 0).trans rfl, (blk_cell BK181.out 0).trans rfl, (blk_cell BK181.out 1).trans rfl, (blk_cell BK181.out 2).trans rfl⟩ (fun hHeld => ?_); refine with_tabW impl_AddClue.tab1 impl_AddClue.bits1 (fun HT_ HW_ => ?_)
   generalize w9.drew = w10 at BK180 BK181 BK182 HB hHeld ⊢
   refine pure_ (i := 0) (N := some 7) (v := ?_) (a' := ?_) #[true, false, false, false, false, false, false, false, false] rfl rfl (any_of HT_.out (by kernel_rfl)) (fun _ _ _ h => h) (Or.inl ⟨by rfl, ?_⟩) ?_ ?_
   rotate_left
   ·intro w'
    go_simp
    with_reducible rfl
   rotate_left
   ·simp only [Act.put, List.setIfInBounds_toArray, List.set_cons_zero, List.set_cons_succ, i64_w, i32_w]
    rfl
   refine take_ (i := 1) (N := some 8) (v := ?_) (a' := ?_) #[true, true, false, false, false, false, false, false, false] rfl rfl (take_ofW HT_.out HW_.out (by kernel_rfl)) (fun _ _ _ h => h) (Or.inl ⟨by rfl, ?_⟩) hHeld ?_ ?_
   rotate_left
   ·rintro w' ⟨s0, s1, s2, s3⟩
    go_simp
    with_reducible rfl
   rotate_left
   ·simp only [Act.put, List.setIfInBounds_toArray, List.set_cons_zero, List.set_cons_succ, i64_w, i32_w]
    rfl
   refine take_ (i := 3) (N := some 10) (v := ?_) (a' := ?_) #[true, true, false, true, false, false, false, false, false] rfl rfl (take_ofW HT_.out HW_.out (by kernel_rfl)) (fun _ _ _ h => h) (Or.inl ⟨by rfl, ?_⟩) hHeld ?_ ?_
   rotate_left
   ·rintro w' ⟨s0, s1, s2, s3⟩
    go_simp
    with_reducible rfl
   rotate_left
   ·simp only [Act.put, List.setIfInBounds_toArray, List.set_cons_zero, List.set_cons_succ, i64_w, i32_w]
    rfl
   refine join_ (σ := Value × Value × Value × Nat) 1 #[true, true, true, true, true, true, true, true, false] (fun s_ => [(9, s_.1), (11, s_.2.1), (12, s_.2.2.1), (6, .pointer (some ⟨s_.2.2.2, 0, none⟩)), (13, .agg #[s_.2.2.1])]) (fun s_ w' => (w'.cell? ⟨gb180, 0, none⟩ = some (.slice A0_0 l0_0.length c0_0) ∧ w'.cell? ⟨gb181, 0, none⟩ = some (.int .i64 a1_0) ∧ w'.cell? ⟨gb181, 1, none⟩ = some (.int .i64 a1_1) ∧ w'.cell? ⟨gb181, 2, none⟩ = some (.int .i64 a1_2)) ∧ (Kd.R k39 39 w' w.heap.size (fun k_ => some k_ ≠ (s_.2.2.1 : Value).ownBlock ∧ k_ ≠ gb181) s_.2.1 y186) ∧ (Kd.R k39 39 w' w.heap.size (fun k_ => some k_ ≠ (s_.2.1 : Value).ownBlock ∧ k_ ≠ gb181) s_.2.2.1 y189) ∧ (w'.heap[gb180]? = some (.cells #[.slice A0_0 l0_0.length c0_0] 29 (0, 0))) ∧ (w'.heap[gb181]? = some (.cells #[.int .i64 a1_0, .int .i64 a1_1, .int .i64 a1_2] 39 (0, 0))) ∧ (w'.heap[gb182]? = some (.cells #[.slice none 0 0] 29 (0, 0))) ∧ (w'.heap[s_.2.2.2]? = some (.cells #[.slice none 0 0] 29 (0, 0))) ∧ (w.heap.size ≤ s_.2.2.2) ∧ (w.heap.size ≤ s_.2.2.2) ∧ (gb180 ≠ s_.2.2.2) ∧ (s_.2.2.2 ≠ gb180) ∧ (gb181 ≠ s_.2.2.2) ∧ (s_.2.2.2 ≠ gb181) ∧ (gb182 ≠ s_.2.2.2) ∧ (s_.2.2.2 ≠ gb182) ∧ (Below w.heap.size w w')) ?_ ?_
   rotate_left
   ·intro hJ2_4_5_7
    refine join_ (σ := Value × Value × Value) 2 #[true, true, true, true, true, true, true, false, false] (fun s_ => [(9, s_.1), (11, s_.2.1), (12, s_.2.2), (13, .agg #[s_.2.2])]) (fun s_ w' => (w'.cell? ⟨gb180, 0, none⟩ = some (.slice A0_0 l0_0.length c0_0) ∧ w'.cell? ⟨gb181, 0, none⟩ = some (.int .i64 a1_0) ∧ w'.cell? ⟨gb181, 1, none⟩ = some (.int .i64 a1_1) ∧ w'.cell? ⟨gb181, 2, none⟩ = some (.int .i64 a1_2)) ∧ (Kd.R k39 39 w' w.heap.size (fun k_ => some k_ ≠ (s_.2.2 : Value).ownBlock ∧ k_ ≠ gb181) s_.2.1 y186) ∧ (Kd.R k39 39 w' w.heap.size (fun k_ => some k_ ≠ (s_.2.1 : Value).ownBlock ∧ k_ ≠ gb181) s_.2.2 y189) ∧ (w'.heap[gb180]? = some (.cells #[.slice A0_0 l0_0.length c0_0] 29 (0, 0))) ∧ (w'.heap[gb181]? = some (.cells #[.int .i64 a1_0, .int .i64 a1_1, .int .i64 a1_2] 39 (0, 0))) ∧ (w'.heap[gb182]? = some (.cells #[.slice none 0 0] 29 (0, 0))) ∧ (Below w.heap.size w w')) ?_ ?_
    rotate_left
    ·intro hJ2_4_5
     refine join_ (σ := Value × Value × Nat) 3 #[true, true, true, true, true, false, false, true, false] (fun s_ => [(9, s_.1), (11, s_.2.1), (6, .pointer (some ⟨s_.2.2, 0, none⟩))]) (fun s_ w' => (w'.cell? ⟨gb180, 0, none⟩ = some (.slice A0_0 l0_0.length c0_0) ∧ w'.cell? ⟨gb181, 0, none⟩ = some (.int .i64 a1_0) ∧ w'.cell? ⟨gb181, 1, none⟩ = some (.int .i64 a1_1) ∧ w'.cell? ⟨gb181, 2, none⟩ = some (.int .i64 a1_2)) ∧ (Kd.R k39 39 w' w.heap.size (fun k_ => some k_ ≠ (s_.2.1 : Value).ownBlock ∧ k_ ≠ gb181) s_.1 t183) ∧ (Kd.R k39 39 w' w.heap.size (fun k_ => some k_ ≠ (s_.1 : Value).ownBlock ∧ k_ ≠ gb181) s_.2.1 y186) ∧ (w'.heap[gb180]? = some (.cells #[.slice A0_0 l0_0.length c0_0] 29 (0, 0))) ∧ (w'.heap[gb181]? = some (.cells #[.int .i64 a1_0, .int .i64 a1_1, .int .i64 a1_2] 39 (0, 0))) ∧ (w'.heap[gb182]? = some (.cells #[.slice none 0 0] 29 (0, 0))) ∧ (w'.heap[s_.2.2]? = some (.cells #[.slice none 0 0] 29 (0, 0))) ∧ (w.heap.size ≤ s_.2.2) ∧ (w.heap.size ≤ s_.2.2) ∧ (gb180 ≠ s_.2.2) ∧ (s_.2.2 ≠ gb180) ∧ (gb181 ≠ s_.2.2) ∧ (s_.2.2 ≠ gb181) ∧ (gb182 ≠ s_.2.2) ∧ (s_.2.2 ≠ gb182) ∧ (Below w.heap.size w w')) ?_ ?_
     rotate_left
     ·intro hJ2_4_7
      refine join_ (σ := Value × Value) 4 #[true, true, true, true, true, false, false, false, false] (fun s_ => [(9, s_.1), (11, s_.2)]) (fun s_ w' => (w'.cell? ⟨gb180, 0, none⟩ = some (.slice A0_0 l0_0.length c0_0) ∧ w'.cell? ⟨gb181, 0, none⟩ = some (.int .i64 a1_0) ∧ w'.cell? ⟨gb181, 1, none⟩ = some (.int .i64 a1_1) ∧ w'.cell? ⟨gb181, 2, none⟩ = some (.int .i64 a1_2)) ∧ (Kd.R k39 39 w' w.heap.size (fun k_ => some k_ ≠ (s_.2 : Value).ownBlock ∧ k_ ≠ gb181) s_.1 t183) ∧ (Kd.R k39 39 w' w.heap.size (fun k_ => some k_ ≠ (s_.1 : Value).ownBlock ∧ k_ ≠ gb181) s_.2 y186) ∧ (w'.heap[gb180]? = some (.cells #[.slice A0_0 l0_0.length c0_0] 29 (0, 0))) ∧ (w'.heap[gb181]? = some (.cells #[.int .i64 a1_0, .int .i64 a1_1, .int .i64 a1_2] 39 (0, 0))) ∧ (w'.heap[gb182]? = some (.cells #[.slice none 0 0] 29 (0, 0))) ∧ (Below w.heap.size w w')) ?_ ?_
      rotate_left
      ·intro hJ2_4
       refine join_ (σ := Value × Nat) 4 #[true, true, true, true, false, false, false, true, false] (fun s_ => [(9, s_.1), (6, .pointer (some ⟨s_.2, 0, none⟩))]) (fun s_ w' => (w'.cell? ⟨gb180, 0, none⟩ = some (.slice A0_0 l0_0.length c0_0) ∧ w'.cell? ⟨gb181, 0, none⟩ = some (.int .i64 a1_0) ∧ w'.cell? ⟨gb181, 1, none⟩ = some (.int .i64 a1_1) ∧ w'.cell? ⟨gb181, 2, none⟩ = some (.int .i64 a1_2)) ∧ (Kd.R k39 39 w' w.heap.size (fun k_ => k_ ≠ gb181) s_.1 t183) ∧ (w'.heap[gb180]? = some (.cells #[.slice A0_0 l0_0.length c0_0] 29 (0, 0))) ∧ (w'.heap[gb181]? = some (.cells #[.int .i64 a1_0, .int .i64 a1_1, .int .i64 a1_2] 39 (0, 0))) ∧ (w'.heap[gb182]? = some (.cells #[.slice none 0 0] 29 (0, 0))) ∧ (w'.heap[s_.2]? = some (.cells #[.slice none 0 0] 29 (0, 0))) ∧ (w.heap.size ≤ s_.2) ∧ (w.heap.size ≤ s_.2) ∧ (gb180 ≠ s_.2) ∧ (s_.2 ≠ gb180) ∧ (gb181 ≠ s_.2) ∧ (s_.2 ≠ gb181) ∧ (gb182 ≠ s_.2) ∧ (s_.2 ≠ gb182) ∧ (Below w.heap.size w w')) ?_ ?_
       rotate_left
       ·intro hJ2_7
        refine join_ (σ := Value × Nat) 4 #[true, true, false, true, true, false, false, true, false] (fun s_ => [(11, s_.1), (6, .pointer (some ⟨s_.2, 0, none⟩))]) (fun s_ w' => (w'.cell? ⟨gb180, 0, none⟩ = some (.slice A0_0 l0_0.length c0_0) ∧ w'.cell? ⟨gb181, 0, none⟩ = some (.int .i64 a1_0) ∧ w'.cell? ⟨gb181, 1, none⟩ = some (.int .i64 a1_1) ∧ w'.cell? ⟨gb181, 2, none⟩ = some (.int .i64 a1_2)) ∧ (Kd.R k39 39 w' w.heap.size (fun k_ => k_ ≠ gb181) s_.1 y186) ∧ (w'.heap[gb180]? = some (.cells #[.slice A0_0 l0_0.length c0_0] 29 (0, 0))) ∧ (w'.heap[gb181]? = some (.cells #[.int .i64 a1_0, .int .i64 a1_1, .int .i64 a1_2] 39 (0, 0))) ∧ (w'.heap[gb182]? = some (.cells #[.slice none 0 0] 29 (0, 0))) ∧ (w'.heap[s_.2]? = some (.cells #[.slice none 0 0] 29 (0, 0))) ∧ (w.heap.size ≤ s_.2) ∧ (w.heap.size ≤ s_.2) ∧ (gb180 ≠ s_.2) ∧ (s_.2 ≠ gb180) ∧ (gb181 ≠ s_.2) ∧ (s_.2 ≠ gb181) ∧ (gb182 ≠ s_.2) ∧ (s_.2 ≠ gb182) ∧ (Below w.heap.size w w')) ?_ ?_
        rotate_left
        ·intro hJ4_7
         refine join_ (σ := Value) 5 #[true, true, true, true, false, false, false, false, false] (fun s_ => [(9, s_)]) (fun s_ w' => (w'.cell? ⟨gb180, 0, none⟩ = some (.slice A0_0 l0_0.length c0_0) ∧ w'.cell? ⟨gb181, 0, none⟩ = some (.int .i64 a1_0) ∧ w'.cell? ⟨gb181, 1, none⟩ = some (.int .i64 a1_1) ∧ w'.cell? ⟨gb181, 2, none⟩ = some (.int .i64 a1_2)) ∧ (Kd.R k39 39 w' w.heap.size (fun k_ => k_ ≠ gb181) s_ t183) ∧ (w'.heap[gb180]? = some (.cells #[.slice A0_0 l0_0.length c0_0] 29 (0, 0))) ∧ (w'.heap[gb181]? = some (.cells #[.int .i64 a1_0, .int .i64 a1_1, .int .i64 a1_2] 39 (0, 0))) ∧ (w'.heap[gb182]? = some (.cells #[.slice none 0 0] 29 (0, 0))) ∧ (Below w.heap.size w w')) ?_ ?_
         rotate_left
         ·intro hJ2
          refine join_ (σ := Value) 5 #[true, true, false, true, true, false, false, false, false] (fun s_ => [(11, s_)]) (fun s_ w' => (w'.cell? ⟨gb180, 0, none⟩ = some (.slice A0_0 l0_0.length c0_0) ∧ w'.cell? ⟨gb181, 0, none⟩ = some (.int .i64 a1_0) ∧ w'.cell? ⟨gb181, 1, none⟩ = some (.int .i64 a1_1) ∧ w'.cell? ⟨gb181, 2, none⟩ = some (.int .i64 a1_2)) ∧ (Kd.R k39 39 w' w.heap.size (fun k_ => k_ ≠ gb181) s_ y186) ∧ (w'.heap[gb180]? = some (.cells #[.slice A0_0 l0_0.length c0_0] 29 (0, 0))) ∧ (w'.heap[gb181]? = some (.cells #[.int .i64 a1_0, .int .i64 a1_1, .int .i64 a1_2] 39 (0, 0))) ∧ (w'.heap[gb182]? = some (.cells #[.slice none 0 0] 29 (0, 0))) ∧ (Below w.heap.size w w')) ?_ ?_
          rotate_left
          ·intro hJ4
           refine join_ (σ := Nat) 5 #[true, true, false, true, false, false, false, true, false] (fun s_ => [(6, .pointer (some ⟨s_, 0, none⟩))]) (fun s_ w' => (w'.cell? ⟨gb180, 0, none⟩ = some (.slice A0_0 l0_0.length c0_0) ∧ w'.cell? ⟨gb181, 0, none⟩ = some (.int .i64 a1_0) ∧ w'.cell? ⟨gb181, 1, none⟩ = some (.int .i64 a1_1) ∧ w'.cell? ⟨gb181, 2, none⟩ = some (.int .i64 a1_2)) ∧ (w'.heap[gb180]? = some (.cells #[.slice A0_0 l0_0.length c0_0] 29 (0, 0))) ∧ (w'.heap[gb181]? = some (.cells #[.int .i64 a1_0, .int .i64 a1_1, .int .i64 a1_2] 39 (0, 0))) ∧ (w'.heap[gb182]? = some (.cells #[.slice none 0 0] 29 (0, 0))) ∧ (w'.heap[s_]? = some (.cells #[.slice none 0 0] 29 (0, 0))) ∧ (w.heap.size ≤ s_) ∧ (w.heap.size ≤ s_) ∧ (gb180 ≠ s_) ∧ (s_ ≠ gb180) ∧ (gb181 ≠ s_) ∧ (s_ ≠ gb181) ∧ (gb182 ≠ s_) ∧ (s_ ≠ gb182) ∧ (Below w.heap.size w w')) ?_ ?_
           rotate_left
           ·intro hJ7
            refine three_ (i := 2) (j := 4) (k := 7) (Ni := some 9) (Nj := some 11) (Nk := some 6) #[true, true, true, true, false, false, false, false, false] #[true, true, false, true, true, false, false, false, false] #[true, true, false, true, false, false, false, true, false] rfl rfl rfl rfl rfl rfl (three_of HT_.out (by kernel_rfl)) (by decide) (by decide) (by decide) (fun K hK => ?_) (fun K hK => ?_) (fun K hK => ?_)
            ·skip
             refine goes_ Try.func65 (by kernel_rfl) rfl #[.slice A0_0 l0_0.length c0_0] (by rfl) rfl rfl (by (try simp only [List.map_toArray, List.map_cons, List.map_nil]); first | done | rfl | (simp only [List.length_drop, List.length_take]; rfl)) ?_
             with_reducible refine (slices_Clone_impl_Clue_impl_Clue.calls _ _ l0_0 t183 _ ?side1 ?side2 A3.out).mono ?_
             (case side1 => repeat (first | exact (Kd.C_below HR0_0.out HB.out) | (with_reducible refine Kd.C_alloc ?_ _) | (with_reducible refine Kd.C_drewN ?_ _) | (with_reducible refine Kd.C_drew ?_)))
             (case side2 => exact HC0_0.out)
             rintro e w11 ⟨v184, rfl, ho0, hb⟩
             refine ⟨_, rfl, ?_⟩
             have n0_ := Aside0.mk (Kd.R_lower (Kd.R_newB ho0 (g := gb181) (o := .cells #[.int .i64 a1_0, .int .i64 a1_1, .int .i64 a1_2] 39 (0, 0)) (bk BK181.out)) (below_size (hB HB.out)))
             have n1_ := Aside0.mk (blk_below (g := gb180) (o := .cells #[.slice A0_0 l0_0.length c0_0] 29 (0, 0)) (bk BK180.out) hb)
             have n2_ := Aside0.mk (blk_below (g := gb181) (o := .cells #[.int .i64 a1_0, .int .i64 a1_1, .int .i64 a1_2] 39 (0, 0)) (bk BK181.out) hb)
             have n3_ := Aside0.mk (blk_below (g := gb182) (o := .cells #[.slice none 0 0] 29 (0, 0)) (bk BK182.out) hb)
             have n4_ := Aside0.mk (below_step (hB HB.out) hb)
             clear BK180
             clear BK181
             clear BK182
             clear HB
             have HO185 := n0_
             have BK180 := n1_
             have BK181 := n2_
             have BK182 := n3_
             have HB := n4_
             clear n0_ n1_ n2_ n3_ n4_
             (try clear hb)
             (try clear hb2)
             (try clear hk)
             (try clear hi)
             (try clear ho0)
             refine hK.out _ _ ⟨(blk_cell BK180.out 0).trans rfl, (blk_cell BK181.out 0).trans rfl, (blk_cell BK181.out 1).trans rfl, (blk_cell BK181.out 2).trans rfl⟩ (fun hHeld => ?_)
             clear hK K
             refine norm_ (a' := ?_) ?_ ?_
             rotate_left
             ·show Act.put _ (some 9) _ = _
              simp only [Act.put, List.setIfInBounds_toArray, List.set_cons_zero, List.set_cons_succ, i64_w, i32_w]
              rfl
             exact norm_ (by first | (simp only [putAll, Act.put, List.setIfInBounds_toArray, List.set_cons_zero, List.set_cons_succ]; done) | (simp only [putAll, Act.put, List.setIfInBounds_toArray, List.set_cons_zero, List.set_cons_succ]; rfl)) (hJ2 (_) _ ⟨hHeld, (rk (Kd.R_mono HO185.out (fun _ hk => hk.2))), (bk BK180.out), (bk BK181.out), (bk BK182.out), (hB HB.out)⟩)
            ·skip
             refine Kd.R_lit_step k39 _ 39 ?hg (N := 11) ?hd (xs := ([(⟨a1_0, a1_1, a1_2⟩ : S39)] : List (S39))) (inner := [.int .i64 a1_0, .int .i64 a1_1, .int .i64 a1_2]) (ok := fun _ => True) (okp := fun _ => True) ?hr ?hp (fun _ hk => hk) trivial (Below.refl _ _) (Nat.le_refl _) (by simp) ?_; (case hd => rfl); (case hg => rfl); (case hr => first | (go_simp; done) | (go_simp; rfl)); (case hp => exact (Reps.c3 (show Kd.M k39 _ _ _ (⟨a1_0, a1_1, a1_2⟩ : S39) [.int .i64 a1_0, .int .i64 a1_1, .int .i64 a1_2] from (k39_mkM _ _ _ (⟨a1_0, a1_1, a1_2⟩ : S39) )) (Reps.none _ _)))
             intro v187 w11 ho12 hb hg_ hnew_
             clear hg_ hnew_
             (first | rw [← Ny186.out] at ho12 | (simp only [Int.reduceToNat] at ho12; rw [← Ny186.out] at ho12))
             have n0_ := Aside0.mk (Kd.R_lower (Kd.R_newB ho12 (g := gb181) (o := .cells #[.int .i64 a1_0, .int .i64 a1_1, .int .i64 a1_2] 39 (0, 0)) (bk BK181.out)) (below_size (hB HB.out)))
             have n1_ := Aside0.mk (blk_below (g := gb180) (o := .cells #[.slice A0_0 l0_0.length c0_0] 29 (0, 0)) (bk BK180.out) hb)
             have n2_ := Aside0.mk (blk_below (g := gb181) (o := .cells #[.int .i64 a1_0, .int .i64 a1_1, .int .i64 a1_2] 39 (0, 0)) (bk BK181.out) hb)
             have n3_ := Aside0.mk (blk_below (g := gb182) (o := .cells #[.slice none 0 0] 29 (0, 0)) (bk BK182.out) hb)
             have n4_ := Aside0.mk (below_step (hB HB.out) hb)
             clear BK180
             clear BK181
             clear BK182
             clear HB
             have HO188 := n0_
             have BK180 := n1_
             have BK181 := n2_
             have BK182 := n3_
             have HB := n4_
             clear n0_ n1_ n2_ n3_ n4_
             clear hb ho12
             refine hK.out _ _ ⟨(blk_cell BK180.out 0).trans rfl, (blk_cell BK181.out 0).trans rfl, (blk_cell BK181.out 1).trans rfl, (blk_cell BK181.out 2).trans rfl⟩ (fun hHeld => ?_)
             clear hK K
             refine norm_ (a' := ?_) ?_ ?_
             rotate_left
             ·show Act.put _ (some 11) _ = _
              simp only [Act.put, List.setIfInBounds_toArray, List.set_cons_zero, List.set_cons_succ, i64_w, i32_w]
              rfl
             exact norm_ (by first | (simp only [putAll, Act.put, List.setIfInBounds_toArray, List.set_cons_zero, List.set_cons_succ]; done) | (simp only [putAll, Act.put, List.setIfInBounds_toArray, List.set_cons_zero, List.set_cons_succ]; rfl)) (hJ4 (_) _ ⟨hHeld, (rk (Kd.R_mono HO188.out (fun _ hk => hk.2))), (bk BK180.out), (bk BK181.out), (bk BK182.out), (hB HB.out)⟩)
            ·skip
             refine box_step ?hg (N := 6) ?hd (cs := #[.slice none 0 0]) (t := 29) ?hr ?_; (case hd => rfl); (case hg => rfl); (case hr => first | (go_simp; done) | (go_simp; rfl))
             intro gb192 hg w11 hbox hb
             have n0_ := Aside0.mk (blk_below (g := gb180) (o := .cells #[.slice A0_0 l0_0.length c0_0] 29 (0, 0)) (bk BK180.out) hb)
             have n1_ := Aside0.mk (blk_below (g := gb181) (o := .cells #[.int .i64 a1_0, .int .i64 a1_1, .int .i64 a1_2] 39 (0, 0)) (bk BK181.out) hb)
             have n2_ := Aside0.mk (blk_below (g := gb182) (o := .cells #[.slice none 0 0] 29 (0, 0)) (bk BK182.out) hb)
             have n3_ := Aside0.mk (below_step (hB HB.out) hb)
             have n4_ := Aside0.mk (hbox)
             have n5_ := Aside0.mk ((by rw [hg]; exact (below_size (hB HB.out)) : w.heap.size ≤ gb192))
             have n6_ := Aside0.mk ((by rw [hg]; exact (below_size (hB HB.out)) : w.heap.size ≤ gb192))
             have n7_ := Aside0.mk ((by rw [hg]; exact Nat.ne_of_lt (blk_lt (g := gb180) (o := .cells #[.slice A0_0 l0_0.length c0_0] 29 (0, 0)) (bk BK180.out)) : gb180 ≠ gb192))
             have n8_ := Aside0.mk ((by rw [hg]; exact Nat.ne_of_gt (blk_lt (g := gb180) (o := .cells #[.slice A0_0 l0_0.length c0_0] 29 (0, 0)) (bk BK180.out)) : gb192 ≠ gb180))
             have n9_ := Aside0.mk ((by rw [hg]; exact Nat.ne_of_lt (blk_lt (g := gb181) (o := .cells #[.int .i64 a1_0, .int .i64 a1_1, .int .i64 a1_2] 39 (0, 0)) (bk BK181.out)) : gb181 ≠ gb192))
             have n10_ := Aside0.mk ((by rw [hg]; exact Nat.ne_of_gt (blk_lt (g := gb181) (o := .cells #[.int .i64 a1_0, .int .i64 a1_1, .int .i64 a1_2] 39 (0, 0)) (bk BK181.out)) : gb192 ≠ gb181))
             have n11_ := Aside0.mk ((by rw [hg]; exact Nat.ne_of_lt (blk_lt (g := gb182) (o := .cells #[.slice none 0 0] 29 (0, 0)) (bk BK182.out)) : gb182 ≠ gb192))
             have n12_ := Aside0.mk ((by rw [hg]; exact Nat.ne_of_gt (blk_lt (g := gb182) (o := .cells #[.slice none 0 0] 29 (0, 0)) (bk BK182.out)) : gb192 ≠ gb182))
             clear BK180
             clear BK181
             clear BK182
             clear HB
             have BK180 := n0_
             have BK181 := n1_
             have BK182 := n2_
             have HB := n3_
             have BK192 := n4_
             have GW192 := n5_
             have GE192 := n6_
             have NB180_192 := n7_
             have NB192_180 := n8_
             have NB181_192 := n9_
             have NB192_181 := n10_
             have NB182_192 := n11_
             have NB192_182 := n12_
             clear n0_ n1_ n2_ n3_ n4_ n5_ n6_ n7_ n8_ n9_ n10_ n11_ n12_
             clear hb hbox hg
             refine hK.out _ _ ⟨(blk_cell BK180.out 0).trans rfl, (blk_cell BK181.out 0).trans rfl, (blk_cell BK181.out 1).trans rfl, (blk_cell BK181.out 2).trans rfl⟩ (fun hHeld => ?_)
             clear hK K
             refine norm_ (a' := ?_) ?_ ?_
             rotate_left
             ·show Act.put _ (some 6) _ = _
              simp only [Act.put, List.setIfInBounds_toArray, List.set_cons_zero, List.set_cons_succ, i64_w, i32_w]
              rfl
             exact norm_ (by first | (simp only [putAll, Act.put, List.setIfInBounds_toArray, List.set_cons_zero, List.set_cons_succ]; done) | (simp only [putAll, Act.put, List.setIfInBounds_toArray, List.set_cons_zero, List.set_cons_succ]; rfl)) (hJ7 (gb192) _ ⟨hHeld, (bk BK180.out), (bk BK181.out), (bk BK182.out), (bk BK192.out), GW192.out, GE192.out, NB180_192.out, NB192_180.out, NB181_192.out, NB192_181.out, NB182_192.out, NB192_182.out, (hB HB.out)⟩)
           ·skip
            rintro gb192 w12 ⟨hS_, h0_, h1_, h2_, h3_, h4_, h5_, h6_, h7_, h8_, h9_, h10_, h11_, h12_⟩
            have n0_ : Aside0 (w12.heap[gb180]? = some (.cells #[.slice A0_0 l0_0.length c0_0] 29 (0, 0))) := ⟨h0_⟩
            have n1_ : Aside0 (w12.heap[gb181]? = some (.cells #[.int .i64 a1_0, .int .i64 a1_1, .int .i64 a1_2] 39 (0, 0))) := ⟨h1_⟩
            have n2_ : Aside0 (w12.heap[gb182]? = some (.cells #[.slice none 0 0] 29 (0, 0))) := ⟨h2_⟩
            have n3_ : Aside0 (w12.heap[gb192]? = some (.cells #[.slice none 0 0] 29 (0, 0))) := ⟨h3_⟩
            have n4_ : Aside0 (w.heap.size ≤ gb192) := ⟨h4_⟩
            have n5_ : Aside0 (w.heap.size ≤ gb192) := ⟨h5_⟩
            have n6_ : Aside0 (gb180 ≠ gb192) := ⟨h6_⟩
            have n7_ : Aside0 (gb192 ≠ gb180) := ⟨h7_⟩
            have n8_ : Aside0 (gb181 ≠ gb192) := ⟨h8_⟩
            have n9_ : Aside0 (gb192 ≠ gb181) := ⟨h9_⟩
            have n10_ : Aside0 (gb182 ≠ gb192) := ⟨h10_⟩
            have n11_ : Aside0 (gb192 ≠ gb182) := ⟨h11_⟩
            have n12_ : Aside0 (Below w.heap.size w w12) := ⟨h12_⟩
            clear BK180
            clear BK181
            clear BK182
            clear HB
            clear h0_ h1_ h2_ h3_ h4_ h5_ h6_ h7_ h8_ h9_ h10_ h11_ h12_
            have BK180 := n0_
            have BK181 := n1_
            have BK182 := n2_
            have BK192 := n3_
            have GW192 := n4_
            have GE192 := n5_
            have NB180_192 := n6_
            have NB192_180 := n7_
            have NB181_192 := n8_
            have NB192_181 := n9_
            have NB182_192 := n10_
            have NB192_182 := n11_
            have HB := n12_
            clear n0_ n1_ n2_ n3_ n4_ n5_ n6_ n7_ n8_ n9_ n10_ n11_ n12_
            have hHeld : w12.cell? ⟨gb180, 0, none⟩ = some (.slice A0_0 l0_0.length c0_0) ∧ w12.cell? ⟨gb181, 0, none⟩ = some (.int .i64 a1_0) ∧ w12.cell? ⟨gb181, 1, none⟩ = some (.int .i64 a1_1) ∧ w12.cell? ⟨gb181, 2, none⟩ = some (.int .i64 a1_2) := hS_
            refine norm_ (a' := ?_) ?_ ?_
            rotate_left
            ·simp only [putAll, Act.put, List.setIfInBounds_toArray, List.set_cons_zero, List.set_cons_succ]
             rfl
            refine two_ (i := 2) (j := 4) (Ni := some 9) (Nj := some 11) #[true, true, true, true, false, false, false, true, false] #[true, true, false, true, true, false, false, true, false] rfl rfl rfl rfl (two_of HT_.out (by kernel_rfl)) (by decide) (by decide) (fun K hK => ?_) (fun K hK => ?_)
            ·skip
             refine goes_ Try.func65 (by kernel_rfl) rfl #[.slice A0_0 l0_0.length c0_0] (by rfl) rfl rfl (by (try simp only [List.map_toArray, List.map_cons, List.map_nil]); first | done | rfl | (simp only [List.length_drop, List.length_take]; rfl)) ?_
             with_reducible refine (slices_Clone_impl_Clue_impl_Clue.calls _ _ l0_0 t183 _ ?side1 ?side2 A3.out).mono ?_
             (case side1 => repeat (first | exact (Kd.C_below HR0_0.out HB.out) | (with_reducible refine Kd.C_alloc ?_ _) | (with_reducible refine Kd.C_drewN ?_ _) | (with_reducible refine Kd.C_drew ?_)))
             (case side2 => exact HC0_0.out)
             rintro e w13 ⟨v184, rfl, ho0, hb⟩
             refine ⟨_, rfl, ?_⟩
             have n0_ := Aside0.mk (Kd.R_lower (Kd.R_newB ho0 (g := gb181) (o := .cells #[.int .i64 a1_0, .int .i64 a1_1, .int .i64 a1_2] 39 (0, 0)) (bk BK181.out)) (below_size (hB HB.out)))
             have n1_ := Aside0.mk (blk_below (g := gb180) (o := .cells #[.slice A0_0 l0_0.length c0_0] 29 (0, 0)) (bk BK180.out) hb)
             have n2_ := Aside0.mk (blk_below (g := gb181) (o := .cells #[.int .i64 a1_0, .int .i64 a1_1, .int .i64 a1_2] 39 (0, 0)) (bk BK181.out) hb)
             have n3_ := Aside0.mk (blk_below (g := gb182) (o := .cells #[.slice none 0 0] 29 (0, 0)) (bk BK182.out) hb)
             have n4_ := Aside0.mk (blk_below (g := gb192) (o := .cells #[.slice none 0 0] 29 (0, 0)) (bk BK192.out) hb)
             have n5_ := Aside0.mk (below_step (hB HB.out) hb)
             clear BK180
             clear BK181
             clear BK182
             clear BK192
             clear HB
             have HO185 := n0_
             have BK180 := n1_
             have BK181 := n2_
             have BK182 := n3_
             have BK192 := n4_
             have HB := n5_
             clear n0_ n1_ n2_ n3_ n4_ n5_
             (try clear hb)
             (try clear hb2)
             (try clear hk)
             (try clear hi)
             (try clear ho0)
             refine hK.out _ _ ⟨(blk_cell BK180.out 0).trans rfl, (blk_cell BK181.out 0).trans rfl, (blk_cell BK181.out 1).trans rfl, (blk_cell BK181.out 2).trans rfl⟩ (fun hHeld => ?_)
             clear hK K
             refine norm_ (a' := ?_) ?_ ?_
             rotate_left
             ·show Act.put _ (some 9) _ = _
              simp only [Act.put, List.setIfInBounds_toArray, List.set_cons_zero, List.set_cons_succ, i64_w, i32_w]
              rfl
             exact norm_ (by first | (simp only [putAll, Act.put, List.setIfInBounds_toArray, List.set_cons_zero, List.set_cons_succ]; done) | (simp only [putAll, Act.put, List.setIfInBounds_toArray, List.set_cons_zero, List.set_cons_succ]; rfl)) (hJ2_7 (_, gb192) _ ⟨hHeld, (rk (Kd.R_mono HO185.out (fun _ hk => hk.2))), (bk BK180.out), (bk BK181.out), (bk BK182.out), (bk BK192.out), GW192.out, GE192.out, NB180_192.out, NB192_180.out, NB181_192.out, NB192_181.out, NB182_192.out, NB192_182.out, (hB HB.out)⟩)
            ·skip
             refine Kd.R_lit_step k39 _ 39 ?hg (N := 11) ?hd (xs := ([(⟨a1_0, a1_1, a1_2⟩ : S39)] : List (S39))) (inner := [.int .i64 a1_0, .int .i64 a1_1, .int .i64 a1_2]) (ok := fun _ => True) (okp := fun _ => True) ?hr ?hp (fun _ hk => hk) trivial (Below.refl _ _) (Nat.le_refl _) (by simp) ?_; (case hd => rfl); (case hg => rfl); (case hr => first | (go_simp; done) | (go_simp; rfl)); (case hp => exact (Reps.c3 (show Kd.M k39 _ _ _ (⟨a1_0, a1_1, a1_2⟩ : S39) [.int .i64 a1_0, .int .i64 a1_1, .int .i64 a1_2] from (k39_mkM _ _ _ (⟨a1_0, a1_1, a1_2⟩ : S39) )) (Reps.none _ _)))
             intro v187 w13 ho14 hb hg_ hnew_
             clear hg_ hnew_
             (first | rw [← Ny186.out] at ho14 | (simp only [Int.reduceToNat] at ho14; rw [← Ny186.out] at ho14))
             have n0_ := Aside0.mk (Kd.R_lower (Kd.R_newB ho14 (g := gb181) (o := .cells #[.int .i64 a1_0, .int .i64 a1_1, .int .i64 a1_2] 39 (0, 0)) (bk BK181.out)) (below_size (hB HB.out)))
             have n1_ := Aside0.mk (blk_below (g := gb180) (o := .cells #[.slice A0_0 l0_0.length c0_0] 29 (0, 0)) (bk BK180.out) hb)
             have n2_ := Aside0.mk (blk_below (g := gb181) (o := .cells #[.int .i64 a1_0, .int .i64 a1_1, .int .i64 a1_2] 39 (0, 0)) (bk BK181.out) hb)
             have n3_ := Aside0.mk (blk_below (g := gb182) (o := .cells #[.slice none 0 0] 29 (0, 0)) (bk BK182.out) hb)
             have n4_ := Aside0.mk (blk_below (g := gb192) (o := .cells #[.slice none 0 0] 29 (0, 0)) (bk BK192.out) hb)
             have n5_ := Aside0.mk (below_step (hB HB.out) hb)
             clear BK180
             clear BK181
             clear BK182
             clear BK192
             clear HB
             have HO188 := n0_
             have BK180 := n1_
             have BK181 := n2_
             have BK182 := n3_
             have BK192 := n4_
             have HB := n5_
             clear n0_ n1_ n2_ n3_ n4_ n5_
             clear hb ho14
             refine hK.out _ _ ⟨(blk_cell BK180.out 0).trans rfl, (blk_cell BK181.out 0).trans rfl, (blk_cell BK181.out 1).trans rfl, (blk_cell BK181.out 2).trans rfl⟩ (fun hHeld => ?_)
             clear hK K
             refine norm_ (a' := ?_) ?_ ?_
             rotate_left
             ·show Act.put _ (some 11) _ = _
              simp only [Act.put, List.setIfInBounds_toArray, List.set_cons_zero, List.set_cons_succ, i64_w, i32_w]
              rfl
             exact norm_ (by first | (simp only [putAll, Act.put, List.setIfInBounds_toArray, List.set_cons_zero, List.set_cons_succ]; done) | (simp only [putAll, Act.put, List.setIfInBounds_toArray, List.set_cons_zero, List.set_cons_succ]; rfl)) (hJ4_7 (_, gb192) _ ⟨hHeld, (rk (Kd.R_mono HO188.out (fun _ hk => hk.2))), (bk BK180.out), (bk BK181.out), (bk BK182.out), (bk BK192.out), GW192.out, GE192.out, NB180_192.out, NB192_180.out, NB181_192.out, NB192_181.out, NB182_192.out, NB192_182.out, (hB HB.out)⟩)
          ·skip
           rintro v187 w13 ⟨hS_, h0_, h1_, h2_, h3_, h4_⟩
           have n0_ : Aside0 (Kd.R k39 39 w13 w.heap.size (fun k_ => k_ ≠ gb181) v187 y186) := ⟨h0_⟩
           have n1_ : Aside0 (w13.heap[gb180]? = some (.cells #[.slice A0_0 l0_0.length c0_0] 29 (0, 0))) := ⟨h1_⟩
           have n2_ : Aside0 (w13.heap[gb181]? = some (.cells #[.int .i64 a1_0, .int .i64 a1_1, .int .i64 a1_2] 39 (0, 0))) := ⟨h2_⟩
           have n3_ : Aside0 (w13.heap[gb182]? = some (.cells #[.slice none 0 0] 29 (0, 0))) := ⟨h3_⟩
           have n4_ : Aside0 (Below w.heap.size w w13) := ⟨h4_⟩
           clear BK180
           clear BK181
           clear BK182
           clear HB
           clear h0_ h1_ h2_ h3_ h4_
           have HO188 := n0_
           have BK180 := n1_
           have BK181 := n2_
           have BK182 := n3_
           have HB := n4_
           clear n0_ n1_ n2_ n3_ n4_
           have hHeld : w13.cell? ⟨gb180, 0, none⟩ = some (.slice A0_0 l0_0.length c0_0) ∧ w13.cell? ⟨gb181, 0, none⟩ = some (.int .i64 a1_0) ∧ w13.cell? ⟨gb181, 1, none⟩ = some (.int .i64 a1_1) ∧ w13.cell? ⟨gb181, 2, none⟩ = some (.int .i64 a1_2) := hS_
           refine norm_ (a' := ?_) ?_ ?_
           rotate_left
           ·simp only [putAll, Act.put, List.setIfInBounds_toArray, List.set_cons_zero, List.set_cons_succ]
            rfl
           refine two_ (i := 2) (j := 7) (Ni := some 9) (Nj := some 6) #[true, true, true, true, true, false, false, false, false] #[true, true, false, true, true, false, false, true, false] rfl rfl rfl rfl (two_of HT_.out (by kernel_rfl)) (by decide) (by decide) (fun K hK => ?_) (fun K hK => ?_)
           ·skip
            refine goes_ Try.func65 (by kernel_rfl) rfl #[.slice A0_0 l0_0.length c0_0] (by rfl) rfl rfl (by (try simp only [List.map_toArray, List.map_cons, List.map_nil]); first | done | rfl | (simp only [List.length_drop, List.length_take]; rfl)) ?_
            with_reducible refine (slices_Clone_impl_Clue_impl_Clue.calls _ _ l0_0 t183 _ ?side1 ?side2 A3.out).mono ?_
            (case side1 => repeat (first | exact (Kd.C_below HR0_0.out HB.out) | (with_reducible refine Kd.C_alloc ?_ _) | (with_reducible refine Kd.C_drewN ?_ _) | (with_reducible refine Kd.C_drew ?_)))
            (case side2 => exact HC0_0.out)
            rintro e w14 ⟨v184, rfl, ho0, hb⟩
            refine ⟨_, rfl, ?_⟩
            have n0_ := Aside0.mk (Kd.R_elder' (rk HO188.out) (Kd.R_base ho0) hb)
            have n1_ := Aside0.mk (Kd.R_lower (Kd.R_newB (Kd.R_new' ho0 (Kd.R_lt (rk HO188.out))) (g := gb181) (o := .cells #[.int .i64 a1_0, .int .i64 a1_1, .int .i64 a1_2] 39 (0, 0)) (bk BK181.out)) (below_size (hB HB.out)))
            have n2_ := Aside0.mk (blk_below (g := gb180) (o := .cells #[.slice A0_0 l0_0.length c0_0] 29 (0, 0)) (bk BK180.out) hb)
            have n3_ := Aside0.mk (blk_below (g := gb181) (o := .cells #[.int .i64 a1_0, .int .i64 a1_1, .int .i64 a1_2] 39 (0, 0)) (bk BK181.out) hb)
            have n4_ := Aside0.mk (blk_below (g := gb182) (o := .cells #[.slice none 0 0] 29 (0, 0)) (bk BK182.out) hb)
            have n5_ := Aside0.mk (below_step (hB HB.out) hb)
            clear HO188
            clear BK180
            clear BK181
            clear BK182
            clear HB
            have HO188 := n0_
            have HO185 := n1_
            have BK180 := n2_
            have BK181 := n3_
            have BK182 := n4_
            have HB := n5_
            clear n0_ n1_ n2_ n3_ n4_ n5_
            (try clear hb)
            (try clear hb2)
            (try clear hk)
            (try clear hi)
            (try clear ho0)
            refine hK.out _ _ ⟨(blk_cell BK180.out 0).trans rfl, (blk_cell BK181.out 0).trans rfl, (blk_cell BK181.out 1).trans rfl, (blk_cell BK181.out 2).trans rfl⟩ (fun hHeld => ?_)
            clear hK K
            refine norm_ (a' := ?_) ?_ ?_
            rotate_left
            ·show Act.put _ (some 9) _ = _
             simp only [Act.put, List.setIfInBounds_toArray, List.set_cons_zero, List.set_cons_succ, i64_w, i32_w]
             rfl
            exact norm_ (by first | (simp only [putAll, Act.put, List.setIfInBounds_toArray, List.set_cons_zero, List.set_cons_succ]; done) | (simp only [putAll, Act.put, List.setIfInBounds_toArray, List.set_cons_zero, List.set_cons_succ]; rfl)) (hJ2_4 (_, _) _ ⟨hHeld, (rk (Kd.R_mono HO185.out (fun _ hk => ⟨hk.1.2, hk.2⟩))), (rk (Kd.R_mono HO188.out (fun _ hk => ⟨hk.2, hk.1⟩))), (bk BK180.out), (bk BK181.out), (bk BK182.out), (hB HB.out)⟩)
           ·skip
            refine box_step ?hg (N := 6) ?hd (cs := #[.slice none 0 0]) (t := 29) ?hr ?_; (case hd => rfl); (case hg => rfl); (case hr => first | (go_simp; done) | (go_simp; rfl))
            intro gb192 hg w14 hbox hb
            have n0_ := Aside0.mk (Kd.R_below (rk HO188.out) hb)
            have n1_ := Aside0.mk (blk_below (g := gb180) (o := .cells #[.slice A0_0 l0_0.length c0_0] 29 (0, 0)) (bk BK180.out) hb)
            have n2_ := Aside0.mk (blk_below (g := gb181) (o := .cells #[.int .i64 a1_0, .int .i64 a1_1, .int .i64 a1_2] 39 (0, 0)) (bk BK181.out) hb)
            have n3_ := Aside0.mk (blk_below (g := gb182) (o := .cells #[.slice none 0 0] 29 (0, 0)) (bk BK182.out) hb)
            have n4_ := Aside0.mk (below_step (hB HB.out) hb)
            have n5_ := Aside0.mk (hbox)
            have n6_ := Aside0.mk ((by rw [hg]; exact (below_size (hB HB.out)) : w.heap.size ≤ gb192))
            have n7_ := Aside0.mk ((by rw [hg]; exact (below_size (hB HB.out)) : w.heap.size ≤ gb192))
            have n8_ := Aside0.mk ((by rw [hg]; exact Nat.ne_of_lt (blk_lt (g := gb180) (o := .cells #[.slice A0_0 l0_0.length c0_0] 29 (0, 0)) (bk BK180.out)) : gb180 ≠ gb192))
            have n9_ := Aside0.mk ((by rw [hg]; exact Nat.ne_of_gt (blk_lt (g := gb180) (o := .cells #[.slice A0_0 l0_0.length c0_0] 29 (0, 0)) (bk BK180.out)) : gb192 ≠ gb180))
            have n10_ := Aside0.mk ((by rw [hg]; exact Nat.ne_of_lt (blk_lt (g := gb181) (o := .cells #[.int .i64 a1_0, .int .i64 a1_1, .int .i64 a1_2] 39 (0, 0)) (bk BK181.out)) : gb181 ≠ gb192))
            have n11_ := Aside0.mk ((by rw [hg]; exact Nat.ne_of_gt (blk_lt (g := gb181) (o := .cells #[.int .i64 a1_0, .int .i64 a1_1, .int .i64 a1_2] 39 (0, 0)) (bk BK181.out)) : gb192 ≠ gb181))
            have n12_ := Aside0.mk ((by rw [hg]; exact Nat.ne_of_lt (blk_lt (g := gb182) (o := .cells #[.slice none 0 0] 29 (0, 0)) (bk BK182.out)) : gb182 ≠ gb192))
            have n13_ := Aside0.mk ((by rw [hg]; exact Nat.ne_of_gt (blk_lt (g := gb182) (o := .cells #[.slice none 0 0] 29 (0, 0)) (bk BK182.out)) : gb192 ≠ gb182))
            clear HO188
            clear BK180
            clear BK181
            clear BK182
            clear HB
            have HO188 := n0_
            have BK180 := n1_
            have BK181 := n2_
            have BK182 := n3_
            have HB := n4_
            have BK192 := n5_
            have GW192 := n6_
            have GE192 := n7_
            have NB180_192 := n8_
            have NB192_180 := n9_
            have NB181_192 := n10_
            have NB192_181 := n11_
            have NB182_192 := n12_
            have NB192_182 := n13_
            clear n0_ n1_ n2_ n3_ n4_ n5_ n6_ n7_ n8_ n9_ n10_ n11_ n12_ n13_
            clear hb hbox hg
            refine hK.out _ _ ⟨(blk_cell BK180.out 0).trans rfl, (blk_cell BK181.out 0).trans rfl, (blk_cell BK181.out 1).trans rfl, (blk_cell BK181.out 2).trans rfl⟩ (fun hHeld => ?_)
            clear hK K
            refine norm_ (a' := ?_) ?_ ?_
            rotate_left
            ·show Act.put _ (some 6) _ = _
             simp only [Act.put, List.setIfInBounds_toArray, List.set_cons_zero, List.set_cons_succ, i64_w, i32_w]
             rfl
            exact norm_ (by first | (simp only [putAll, Act.put, List.setIfInBounds_toArray, List.set_cons_zero, List.set_cons_succ]; done) | (simp only [putAll, Act.put, List.setIfInBounds_toArray, List.set_cons_zero, List.set_cons_succ]; rfl)) (hJ4_7 (_, gb192) _ ⟨hHeld, (rk HO188.out), (bk BK180.out), (bk BK181.out), (bk BK182.out), (bk BK192.out), GW192.out, GE192.out, NB180_192.out, NB192_180.out, NB181_192.out, NB192_181.out, NB182_192.out, NB192_182.out, (hB HB.out)⟩)
         ·skip
          rintro v184 w12 ⟨hS_, h0_, h1_, h2_, h3_, h4_⟩
          have n0_ : Aside0 (Kd.R k39 39 w12 w.heap.size (fun k_ => k_ ≠ gb181) v184 t183) := ⟨h0_⟩
          have n1_ : Aside0 (w12.heap[gb180]? = some (.cells #[.slice A0_0 l0_0.length c0_0] 29 (0, 0))) := ⟨h1_⟩
          have n2_ : Aside0 (w12.heap[gb181]? = some (.cells #[.int .i64 a1_0, .int .i64 a1_1, .int .i64 a1_2] 39 (0, 0))) := ⟨h2_⟩
          have n3_ : Aside0 (w12.heap[gb182]? = some (.cells #[.slice none 0 0] 29 (0, 0))) := ⟨h3_⟩
          have n4_ : Aside0 (Below w.heap.size w w12) := ⟨h4_⟩
          clear BK180
          clear BK181
          clear BK182
          clear HB
          clear h0_ h1_ h2_ h3_ h4_
          have HO185 := n0_
          have BK180 := n1_
          have BK181 := n2_
          have BK182 := n3_
          have HB := n4_
          clear n0_ n1_ n2_ n3_ n4_
          have hHeld : w12.cell? ⟨gb180, 0, none⟩ = some (.slice A0_0 l0_0.length c0_0) ∧ w12.cell? ⟨gb181, 0, none⟩ = some (.int .i64 a1_0) ∧ w12.cell? ⟨gb181, 1, none⟩ = some (.int .i64 a1_1) ∧ w12.cell? ⟨gb181, 2, none⟩ = some (.int .i64 a1_2) := hS_
          refine norm_ (a' := ?_) ?_ ?_
          rotate_left
          ·simp only [putAll, Act.put, List.setIfInBounds_toArray, List.set_cons_zero, List.set_cons_succ]
           rfl
          refine two_ (i := 4) (j := 7) (Ni := some 11) (Nj := some 6) #[true, true, true, true, true, false, false, false, false] #[true, true, true, true, false, false, false, true, false] rfl rfl rfl rfl (two_of HT_.out (by kernel_rfl)) (by decide) (by decide) (fun K hK => ?_) (fun K hK => ?_)
          ·skip
           refine Kd.R_lit_step k39 _ 39 ?hg (N := 11) ?hd (xs := ([(⟨a1_0, a1_1, a1_2⟩ : S39)] : List (S39))) (inner := [.int .i64 a1_0, .int .i64 a1_1, .int .i64 a1_2]) (ok := fun _ => True) (okp := fun _ => True) ?hr ?hp (fun _ hk => hk) trivial (Below.refl _ _) (Nat.le_refl _) (by simp) ?_; (case hd => rfl); (case hg => rfl); (case hr => first | (go_simp; done) | (go_simp; rfl)); (case hp => exact (Reps.c3 (show Kd.M k39 _ _ _ (⟨a1_0, a1_1, a1_2⟩ : S39) [.int .i64 a1_0, .int .i64 a1_1, .int .i64 a1_2] from (k39_mkM _ _ _ (⟨a1_0, a1_1, a1_2⟩ : S39) )) (Reps.none _ _)))
           intro v187 w13 ho14 hb hg_ hnew_
           clear hg_ hnew_
           (first | rw [← Ny186.out] at ho14 | (simp only [Int.reduceToNat] at ho14; rw [← Ny186.out] at ho14))
           have n0_ := Aside0.mk (Kd.R_elder' (rk HO185.out) (Kd.R_base ho14) hb)
           have n1_ := Aside0.mk (Kd.R_lower (Kd.R_newB (Kd.R_new' ho14 (Kd.R_lt (rk HO185.out))) (g := gb181) (o := .cells #[.int .i64 a1_0, .int .i64 a1_1, .int .i64 a1_2] 39 (0, 0)) (bk BK181.out)) (below_size (hB HB.out)))
           have n2_ := Aside0.mk (blk_below (g := gb180) (o := .cells #[.slice A0_0 l0_0.length c0_0] 29 (0, 0)) (bk BK180.out) hb)
           have n3_ := Aside0.mk (blk_below (g := gb181) (o := .cells #[.int .i64 a1_0, .int .i64 a1_1, .int .i64 a1_2] 39 (0, 0)) (bk BK181.out) hb)
           have n4_ := Aside0.mk (blk_below (g := gb182) (o := .cells #[.slice none 0 0] 29 (0, 0)) (bk BK182.out) hb)
           have n5_ := Aside0.mk (below_step (hB HB.out) hb)
           clear HO185
           clear BK180
           clear BK181
           clear BK182
           clear HB
           have HO185 := n0_
           have HO188 := n1_
           have BK180 := n2_
           have BK181 := n3_
           have BK182 := n4_
           have HB := n5_
           clear n0_ n1_ n2_ n3_ n4_ n5_
           clear hb ho14
           refine hK.out _ _ ⟨(blk_cell BK180.out 0).trans rfl, (blk_cell BK181.out 0).trans rfl, (blk_cell BK181.out 1).trans rfl, (blk_cell BK181.out 2).trans rfl⟩ (fun hHeld => ?_)
           clear hK K
           refine norm_ (a' := ?_) ?_ ?_
           rotate_left
           ·show Act.put _ (some 11) _ = _
            simp only [Act.put, List.setIfInBounds_toArray, List.set_cons_zero, List.set_cons_succ, i64_w, i32_w]
            rfl
           exact norm_ (by first | (simp only [putAll, Act.put, List.setIfInBounds_toArray, List.set_cons_zero, List.set_cons_succ]; done) | (simp only [putAll, Act.put, List.setIfInBounds_toArray, List.set_cons_zero, List.set_cons_succ]; rfl)) (hJ2_4 (_, _) _ ⟨hHeld, (rk (Kd.R_mono HO185.out (fun _ hk => ⟨hk.2, hk.1⟩))), (rk (Kd.R_mono HO188.out (fun _ hk => ⟨hk.1.2, hk.2⟩))), (bk BK180.out), (bk BK181.out), (bk BK182.out), (hB HB.out)⟩)
          ·skip
           refine box_step ?hg (N := 6) ?hd (cs := #[.slice none 0 0]) (t := 29) ?hr ?_; (case hd => rfl); (case hg => rfl); (case hr => first | (go_simp; done) | (go_simp; rfl))
           intro gb192 hg w13 hbox hb
           have n0_ := Aside0.mk (Kd.R_below (rk HO185.out) hb)
           have n1_ := Aside0.mk (blk_below (g := gb180) (o := .cells #[.slice A0_0 l0_0.length c0_0] 29 (0, 0)) (bk BK180.out) hb)
           have n2_ := Aside0.mk (blk_below (g := gb181) (o := .cells #[.int .i64 a1_0, .int .i64 a1_1, .int .i64 a1_2] 39 (0, 0)) (bk BK181.out) hb)
           have n3_ := Aside0.mk (blk_below (g := gb182) (o := .cells #[.slice none 0 0] 29 (0, 0)) (bk BK182.out) hb)
           have n4_ := Aside0.mk (below_step (hB HB.out) hb)
           have n5_ := Aside0.mk (hbox)
           have n6_ := Aside0.mk ((by rw [hg]; exact (below_size (hB HB.out)) : w.heap.size ≤ gb192))
           have n7_ := Aside0.mk ((by rw [hg]; exact (below_size (hB HB.out)) : w.heap.size ≤ gb192))
           have n8_ := Aside0.mk ((by rw [hg]; exact Nat.ne_of_lt (blk_lt (g := gb180) (o := .cells #[.slice A0_0 l0_0.length c0_0] 29 (0, 0)) (bk BK180.out)) : gb180 ≠ gb192))
           have n9_ := Aside0.mk ((by rw [hg]; exact Nat.ne_of_gt (blk_lt (g := gb180) (o := .cells #[.slice A0_0 l0_0.length c0_0] 29 (0, 0)) (bk BK180.out)) : gb192 ≠ gb180))
           have n10_ := Aside0.mk ((by rw [hg]; exact Nat.ne_of_lt (blk_lt (g := gb181) (o := .cells #[.int .i64 a1_0, .int .i64 a1_1, .int .i64 a1_2] 39 (0, 0)) (bk BK181.out)) : gb181 ≠ gb192))
           have n11_ := Aside0.mk ((by rw [hg]; exact Nat.ne_of_gt (blk_lt (g := gb181) (o := .cells #[.int .i64 a1_0, .int .i64 a1_1, .int .i64 a1_2] 39 (0, 0)) (bk BK181.out)) : gb192 ≠ gb181))
           have n12_ := Aside0.mk ((by rw [hg]; exact Nat.ne_of_lt (blk_lt (g := gb182) (o := .cells #[.slice none 0 0] 29 (0, 0)) (bk BK182.out)) : gb182 ≠ gb192))
           have n13_ := Aside0.mk ((by rw [hg]; exact Nat.ne_of_gt (blk_lt (g := gb182) (o := .cells #[.slice none 0 0] 29 (0, 0)) (bk BK182.out)) : gb192 ≠ gb182))
           clear HO185
           clear BK180
           clear BK181
           clear BK182
           clear HB
           have HO185 := n0_
           have BK180 := n1_
           have BK181 := n2_
           have BK182 := n3_
           have HB := n4_
           have BK192 := n5_
           have GW192 := n6_
           have GE192 := n7_
           have NB180_192 := n8_
           have NB192_180 := n9_
           have NB181_192 := n10_
           have NB192_181 := n11_
           have NB182_192 := n12_
           have NB192_182 := n13_
           clear n0_ n1_ n2_ n3_ n4_ n5_ n6_ n7_ n8_ n9_ n10_ n11_ n12_ n13_
           clear hb hbox hg
           refine hK.out _ _ ⟨(blk_cell BK180.out 0).trans rfl, (blk_cell BK181.out 0).trans rfl, (blk_cell BK181.out 1).trans rfl, (blk_cell BK181.out 2).trans rfl⟩ (fun hHeld => ?_)
           clear hK K
           refine norm_ (a' := ?_) ?_ ?_
           rotate_left
           ·show Act.put _ (some 6) _ = _
            simp only [Act.put, List.setIfInBounds_toArray, List.set_cons_zero, List.set_cons_succ, i64_w, i32_w]
            rfl
           exact norm_ (by first | (simp only [putAll, Act.put, List.setIfInBounds_toArray, List.set_cons_zero, List.set_cons_succ]; done) | (simp only [putAll, Act.put, List.setIfInBounds_toArray, List.set_cons_zero, List.set_cons_succ]; rfl)) (hJ2_7 (_, gb192) _ ⟨hHeld, (rk HO185.out), (bk BK180.out), (bk BK181.out), (bk BK182.out), (bk BK192.out), GW192.out, GE192.out, NB180_192.out, NB192_180.out, NB181_192.out, NB192_181.out, NB182_192.out, NB192_182.out, (hB HB.out)⟩)
        ·skip
         rintro ⟨v187, gb192⟩ w14 ⟨hS_, h0_, h1_, h2_, h3_, h4_, h5_, h6_, h7_, h8_, h9_, h10_, h11_, h12_, h13_⟩
         have n0_ : Aside0 (Kd.R k39 39 w14 w.heap.size (fun k_ => k_ ≠ gb181) v187 y186) := ⟨h0_⟩
         have n1_ : Aside0 (w14.heap[gb180]? = some (.cells #[.slice A0_0 l0_0.length c0_0] 29 (0, 0))) := ⟨h1_⟩
         have n2_ : Aside0 (w14.heap[gb181]? = some (.cells #[.int .i64 a1_0, .int .i64 a1_1, .int .i64 a1_2] 39 (0, 0))) := ⟨h2_⟩
         have n3_ : Aside0 (w14.heap[gb182]? = some (.cells #[.slice none 0 0] 29 (0, 0))) := ⟨h3_⟩
         have n4_ : Aside0 (w14.heap[gb192]? = some (.cells #[.slice none 0 0] 29 (0, 0))) := ⟨h4_⟩
         have n5_ : Aside0 (w.heap.size ≤ gb192) := ⟨h5_⟩
         have n6_ : Aside0 (w.heap.size ≤ gb192) := ⟨h6_⟩
         have n7_ : Aside0 (gb180 ≠ gb192) := ⟨h7_⟩
         have n8_ : Aside0 (gb192 ≠ gb180) := ⟨h8_⟩
         have n9_ : Aside0 (gb181 ≠ gb192) := ⟨h9_⟩
         have n10_ : Aside0 (gb192 ≠ gb181) := ⟨h10_⟩
         have n11_ : Aside0 (gb182 ≠ gb192) := ⟨h11_⟩
         have n12_ : Aside0 (gb192 ≠ gb182) := ⟨h12_⟩
         have n13_ : Aside0 (Below w.heap.size w w14) := ⟨h13_⟩
         clear BK180
         clear BK181
         clear BK182
         clear HB
         clear h0_ h1_ h2_ h3_ h4_ h5_ h6_ h7_ h8_ h9_ h10_ h11_ h12_ h13_
         have HO188 := n0_
         have BK180 := n1_
         have BK181 := n2_
         have BK182 := n3_
         have BK192 := n4_
         have GW192 := n5_
         have GE192 := n6_
         have NB180_192 := n7_
         have NB192_180 := n8_
         have NB181_192 := n9_
         have NB192_181 := n10_
         have NB182_192 := n11_
         have NB192_182 := n12_
         have HB := n13_
         clear n0_ n1_ n2_ n3_ n4_ n5_ n6_ n7_ n8_ n9_ n10_ n11_ n12_ n13_
         have hHeld : w14.cell? ⟨gb180, 0, none⟩ = some (.slice A0_0 l0_0.length c0_0) ∧ w14.cell? ⟨gb181, 0, none⟩ = some (.int .i64 a1_0) ∧ w14.cell? ⟨gb181, 1, none⟩ = some (.int .i64 a1_1) ∧ w14.cell? ⟨gb181, 2, none⟩ = some (.int .i64 a1_2) := hS_
         refine norm_ (a' := ?_) ?_ ?_
         rotate_left
         ·simp only [putAll, Act.put, List.setIfInBounds_toArray, List.set_cons_zero, List.set_cons_succ]
          rfl
         refine one_ (i := 2) (N := some 9) #[true, true, true, true, true, false, false, true, false] rfl rfl (one_of HT_.out (by kernel_rfl)) (by decide) (fun K hK => ?_)
         refine goes_ Try.func65 (by kernel_rfl) rfl #[.slice A0_0 l0_0.length c0_0] (by rfl) rfl rfl (by (try simp only [List.map_toArray, List.map_cons, List.map_nil]); first | done | rfl | (simp only [List.length_drop, List.length_take]; rfl)) ?_
         with_reducible refine (slices_Clone_impl_Clue_impl_Clue.calls _ _ l0_0 t183 _ ?side1 ?side2 A3.out).mono ?_
         (case side1 => repeat (first | exact (Kd.C_below HR0_0.out HB.out) | (with_reducible refine Kd.C_alloc ?_ _) | (with_reducible refine Kd.C_drewN ?_ _) | (with_reducible refine Kd.C_drew ?_)))
         (case side2 => exact HC0_0.out)
         rintro e w15 ⟨v184, rfl, ho0, hb⟩
         refine ⟨_, rfl, ?_⟩
         have n0_ := Aside0.mk (Kd.R_elder' (rk HO188.out) (Kd.R_base ho0) hb)
         have n1_ := Aside0.mk (Kd.R_lower (Kd.R_newB (Kd.R_new' ho0 (Kd.R_lt (rk HO188.out))) (g := gb181) (o := .cells #[.int .i64 a1_0, .int .i64 a1_1, .int .i64 a1_2] 39 (0, 0)) (bk BK181.out)) (below_size (hB HB.out)))
         have n2_ := Aside0.mk (blk_below (g := gb180) (o := .cells #[.slice A0_0 l0_0.length c0_0] 29 (0, 0)) (bk BK180.out) hb)
         have n3_ := Aside0.mk (blk_below (g := gb181) (o := .cells #[.int .i64 a1_0, .int .i64 a1_1, .int .i64 a1_2] 39 (0, 0)) (bk BK181.out) hb)
         have n4_ := Aside0.mk (blk_below (g := gb182) (o := .cells #[.slice none 0 0] 29 (0, 0)) (bk BK182.out) hb)
         have n5_ := Aside0.mk (blk_below (g := gb192) (o := .cells #[.slice none 0 0] 29 (0, 0)) (bk BK192.out) hb)
         have n6_ := Aside0.mk (below_step (hB HB.out) hb)
         clear HO188
         clear BK180
         clear BK181
         clear BK182
         clear BK192
         clear HB
         have HO188 := n0_
         have HO185 := n1_
         have BK180 := n2_
         have BK181 := n3_
         have BK182 := n4_
         have BK192 := n5_
         have HB := n6_
         clear n0_ n1_ n2_ n3_ n4_ n5_ n6_
         (try clear hb)
         (try clear hb2)
         (try clear hk)
         (try clear hi)
         (try clear ho0)
         refine hK.out _ _ ⟨(blk_cell BK180.out 0).trans rfl, (blk_cell BK181.out 0).trans rfl, (blk_cell BK181.out 1).trans rfl, (blk_cell BK181.out 2).trans rfl⟩ (fun hHeld => ?_)
         clear hK K
         refine norm_ (a' := ?_) ?_ ?_
         rotate_left
         ·show Act.put _ (some 9) _ = _
          simp only [Act.put, List.setIfInBounds_toArray, List.set_cons_zero, List.set_cons_succ, i64_w, i32_w]
          rfl
         exact norm_ (by first | (simp only [putAll, Act.put, List.setIfInBounds_toArray, List.set_cons_zero, List.set_cons_succ]; done) | (simp only [putAll, Act.put, List.setIfInBounds_toArray, List.set_cons_zero, List.set_cons_succ]; rfl)) (hJ2_4_7 (_, _, gb192) _ ⟨hHeld, (rk (Kd.R_mono HO185.out (fun _ hk => ⟨hk.1.2, hk.2⟩))), (rk (Kd.R_mono HO188.out (fun _ hk => ⟨hk.2, hk.1⟩))), (bk BK180.out), (bk BK181.out), (bk BK182.out), (bk BK192.out), GW192.out, GE192.out, NB180_192.out, NB192_180.out, NB181_192.out, NB192_181.out, NB182_192.out, NB192_182.out, (hB HB.out)⟩)
       ·skip
        rintro ⟨v184, gb192⟩ w13 ⟨hS_, h0_, h1_, h2_, h3_, h4_, h5_, h6_, h7_, h8_, h9_, h10_, h11_, h12_, h13_⟩
        have n0_ : Aside0 (Kd.R k39 39 w13 w.heap.size (fun k_ => k_ ≠ gb181) v184 t183) := ⟨h0_⟩
        have n1_ : Aside0 (w13.heap[gb180]? = some (.cells #[.slice A0_0 l0_0.length c0_0] 29 (0, 0))) := ⟨h1_⟩
        have n2_ : Aside0 (w13.heap[gb181]? = some (.cells #[.int .i64 a1_0, .int .i64 a1_1, .int .i64 a1_2] 39 (0, 0))) := ⟨h2_⟩
        have n3_ : Aside0 (w13.heap[gb182]? = some (.cells #[.slice none 0 0] 29 (0, 0))) := ⟨h3_⟩
        have n4_ : Aside0 (w13.heap[gb192]? = some (.cells #[.slice none 0 0] 29 (0, 0))) := ⟨h4_⟩
        have n5_ : Aside0 (w.heap.size ≤ gb192) := ⟨h5_⟩
        have n6_ : Aside0 (w.heap.size ≤ gb192) := ⟨h6_⟩
        have n7_ : Aside0 (gb180 ≠ gb192) := ⟨h7_⟩
        have n8_ : Aside0 (gb192 ≠ gb180) := ⟨h8_⟩
        have n9_ : Aside0 (gb181 ≠ gb192) := ⟨h9_⟩
        have n10_ : Aside0 (gb192 ≠ gb181) := ⟨h10_⟩
        have n11_ : Aside0 (gb182 ≠ gb192) := ⟨h11_⟩
        have n12_ : Aside0 (gb192 ≠ gb182) := ⟨h12_⟩
        have n13_ : Aside0 (Below w.heap.size w w13) := ⟨h13_⟩
        clear BK180
        clear BK181
        clear BK182
        clear HB
        clear h0_ h1_ h2_ h3_ h4_ h5_ h6_ h7_ h8_ h9_ h10_ h11_ h12_ h13_
        have HO185 := n0_
        have BK180 := n1_
        have BK181 := n2_
        have BK182 := n3_
        have BK192 := n4_
        have GW192 := n5_
        have GE192 := n6_
        have NB180_192 := n7_
        have NB192_180 := n8_
        have NB181_192 := n9_
        have NB192_181 := n10_
        have NB182_192 := n11_
        have NB192_182 := n12_
        have HB := n13_
        clear n0_ n1_ n2_ n3_ n4_ n5_ n6_ n7_ n8_ n9_ n10_ n11_ n12_ n13_
        have hHeld : w13.cell? ⟨gb180, 0, none⟩ = some (.slice A0_0 l0_0.length c0_0) ∧ w13.cell? ⟨gb181, 0, none⟩ = some (.int .i64 a1_0) ∧ w13.cell? ⟨gb181, 1, none⟩ = some (.int .i64 a1_1) ∧ w13.cell? ⟨gb181, 2, none⟩ = some (.int .i64 a1_2) := hS_
        refine norm_ (a' := ?_) ?_ ?_
        rotate_left
        ·simp only [putAll, Act.put, List.setIfInBounds_toArray, List.set_cons_zero, List.set_cons_succ]
         rfl
        refine one_ (i := 4) (N := some 11) #[true, true, true, true, true, false, false, true, false] rfl rfl (one_of HT_.out (by kernel_rfl)) (by decide) (fun K hK => ?_)
        refine Kd.R_lit_step k39 _ 39 ?hg (N := 11) ?hd (xs := ([(⟨a1_0, a1_1, a1_2⟩ : S39)] : List (S39))) (inner := [.int .i64 a1_0, .int .i64 a1_1, .int .i64 a1_2]) (ok := fun _ => True) (okp := fun _ => True) ?hr ?hp (fun _ hk => hk) trivial (Below.refl _ _) (Nat.le_refl _) (by simp) ?_; (case hd => rfl); (case hg => rfl); (case hr => first | (go_simp; done) | (go_simp; rfl)); (case hp => exact (Reps.c3 (show Kd.M k39 _ _ _ (⟨a1_0, a1_1, a1_2⟩ : S39) [.int .i64 a1_0, .int .i64 a1_1, .int .i64 a1_2] from (k39_mkM _ _ _ (⟨a1_0, a1_1, a1_2⟩ : S39) )) (Reps.none _ _)))
        intro v187 w14 ho15 hb hg_ hnew_
        clear hg_ hnew_
        (first | rw [← Ny186.out] at ho15 | (simp only [Int.reduceToNat] at ho15; rw [← Ny186.out] at ho15))
        have n0_ := Aside0.mk (Kd.R_elder' (rk HO185.out) (Kd.R_base ho15) hb)
        have n1_ := Aside0.mk (Kd.R_lower (Kd.R_newB (Kd.R_new' ho15 (Kd.R_lt (rk HO185.out))) (g := gb181) (o := .cells #[.int .i64 a1_0, .int .i64 a1_1, .int .i64 a1_2] 39 (0, 0)) (bk BK181.out)) (below_size (hB HB.out)))
        have n2_ := Aside0.mk (blk_below (g := gb180) (o := .cells #[.slice A0_0 l0_0.length c0_0] 29 (0, 0)) (bk BK180.out) hb)
        have n3_ := Aside0.mk (blk_below (g := gb181) (o := .cells #[.int .i64 a1_0, .int .i64 a1_1, .int .i64 a1_2] 39 (0, 0)) (bk BK181.out) hb)
        have n4_ := Aside0.mk (blk_below (g := gb182) (o := .cells #[.slice none 0 0] 29 (0, 0)) (bk BK182.out) hb)
        have n5_ := Aside0.mk (blk_below (g := gb192) (o := .cells #[.slice none 0 0] 29 (0, 0)) (bk BK192.out) hb)
        have n6_ := Aside0.mk (below_step (hB HB.out) hb)
        clear HO185
        clear BK180
        clear BK181
        clear BK182
        clear BK192
        clear HB
        have HO185 := n0_
        have HO188 := n1_
        have BK180 := n2_
        have BK181 := n3_
        have BK182 := n4_
        have BK192 := n5_
        have HB := n6_
        clear n0_ n1_ n2_ n3_ n4_ n5_ n6_
        clear hb ho15
        refine hK.out _ _ ⟨(blk_cell BK180.out 0).trans rfl, (blk_cell BK181.out 0).trans rfl, (blk_cell BK181.out 1).trans rfl, (blk_cell BK181.out 2).trans rfl⟩ (fun hHeld => ?_)
        clear hK K
        refine norm_ (a' := ?_) ?_ ?_
        rotate_left
        ·show Act.put _ (some 11) _ = _
         simp only [Act.put, List.setIfInBounds_toArray, List.set_cons_zero, List.set_cons_succ, i64_w, i32_w]
         rfl
        exact norm_ (by first | (simp only [putAll, Act.put, List.setIfInBounds_toArray, List.set_cons_zero, List.set_cons_succ]; done) | (simp only [putAll, Act.put, List.setIfInBounds_toArray, List.set_cons_zero, List.set_cons_succ]; rfl)) (hJ2_4_7 (_, _, gb192) _ ⟨hHeld, (rk (Kd.R_mono HO185.out (fun _ hk => ⟨hk.2, hk.1⟩))), (rk (Kd.R_mono HO188.out (fun _ hk => ⟨hk.1.2, hk.2⟩))), (bk BK180.out), (bk BK181.out), (bk BK182.out), (bk BK192.out), GW192.out, GE192.out, NB180_192.out, NB192_180.out, NB181_192.out, NB192_181.out, NB182_192.out, NB192_182.out, (hB HB.out)⟩)
      ·skip
       rintro ⟨v184, v187⟩ w14 ⟨hS_, h0_, h1_, h2_, h3_, h4_, h5_⟩
       have n0_ : Aside0 (Kd.R k39 39 w14 w.heap.size (fun k_ => some k_ ≠ (v187 : Value).ownBlock ∧ k_ ≠ gb181) v184 t183) := ⟨h0_⟩
       have n1_ : Aside0 (Kd.R k39 39 w14 w.heap.size (fun k_ => some k_ ≠ (v184 : Value).ownBlock ∧ k_ ≠ gb181) v187 y186) := ⟨h1_⟩
       have n2_ : Aside0 (w14.heap[gb180]? = some (.cells #[.slice A0_0 l0_0.length c0_0] 29 (0, 0))) := ⟨h2_⟩
       have n3_ : Aside0 (w14.heap[gb181]? = some (.cells #[.int .i64 a1_0, .int .i64 a1_1, .int .i64 a1_2] 39 (0, 0))) := ⟨h3_⟩
       have n4_ : Aside0 (w14.heap[gb182]? = some (.cells #[.slice none 0 0] 29 (0, 0))) := ⟨h4_⟩
       have n5_ : Aside0 (Below w.heap.size w w14) := ⟨h5_⟩
       clear BK180
       clear BK181
       clear BK182
       clear HB
       clear h0_ h1_ h2_ h3_ h4_ h5_
       have HO185 := n0_
       have HO188 := n1_
       have BK180 := n2_
       have BK181 := n3_
       have BK182 := n4_
       have HB := n5_
       clear n0_ n1_ n2_ n3_ n4_ n5_
       have hHeld : w14.cell? ⟨gb180, 0, none⟩ = some (.slice A0_0 l0_0.length c0_0) ∧ w14.cell? ⟨gb181, 0, none⟩ = some (.int .i64 a1_0) ∧ w14.cell? ⟨gb181, 1, none⟩ = some (.int .i64 a1_1) ∧ w14.cell? ⟨gb181, 2, none⟩ = some (.int .i64 a1_2) := hS_
       obtain ⟨Ao16, co16, eo16⟩ := Kd.R_slice HO188.out
       (first | subst eo16 | (injection eo16 with f1_ f2_ f3_; have f4_ := f1_.symm; have f5_ := f3_.symm; clear f1_ f2_ f3_; subst f4_; subst f5_))
       refine norm_ (a' := ?_) ?_ ?_
       rotate_left
       ·simp only [putAll, Act.put, List.setIfInBounds_toArray, List.set_cons_zero, List.set_cons_succ]
        rfl
       refine two_ (i := 5) (j := 7) (Ni := some 12) (Nj := some 6) #[true, true, true, true, true, true, false, false, false] #[true, true, true, true, true, false, false, true, false] rfl rfl rfl rfl (two_of HT_.out (by kernel_rfl)) (by decide) (by decide) (fun K hK => ?_) (fun K hK => ?_)
       ·skip
        refine Kd.R_append_rows_step k39 (w0 := w) w.heap.size (by rfl) (.tmp 9) (.tmp 11) 27 39 (.agg #[(.int .i64 0), (.int .i64 0), (.int .i64 0)]) 24 rfl Try.underlying27 info39 rfl (by decide) (by omega) v184 t183 y186 _ _ _ (fun k_ => some k_ ≠ (.slice Ao16 y186.length co16 : Value).ownBlock ∧ k_ ≠ gb181) (fun _ => False) rfl rfl ?aO ?aR (fun _ _ h => h) (fun _ h => h.elim) ?aF ?aB ?aS ?aL ?_
        (case aR => repeat (first | exact (Kd.R_reads' HO188.out).2.2 | (with_reducible refine Kd.C_alloc ?_ _) | (with_reducible refine Kd.C_drewN ?_ _) | (with_reducible refine Kd.C_drew ?_)))
        (case aB => exact (hB HB.out))
        (case aF => exact (fun k_ hk => ⟨Kd.fresh' (Kd.R_lt (rk HO188.out)) k_ hk, Kd.freshB (g := gb181) (o := .cells #[.int .i64 a1_0, .int .i64 a1_1, .int .i64 a1_2] 39 (0, 0)) (bk BK181.out) k_ hk⟩))
        (case aO => exact (rk HO185.out))
        (case aS => exact (below_size (hB HB.out)))
        (case aL => have := LMc4.out; omega)
        intro v190 w15 ho hb hg hat
        rw [← Ny189.out] at ho
        have n0_ := Aside0.mk (blk_grown (g := gb180) (o := .cells #[.slice A0_0 l0_0.length c0_0] 29 (0, 0)) (bk BK180.out) hg (Kd.R_ne HO185.out BK180.out (by decide)))
        have n1_ := Aside0.mk (blk_grown (g := gb181) (o := .cells #[.int .i64 a1_0, .int .i64 a1_1, .int .i64 a1_2] 39 (0, 0)) (bk BK181.out) hg (Kd.R_away HO185.out (fun _ hk => hk.2)))
        have n2_ := Aside0.mk (blk_grown (g := gb182) (o := .cells #[.slice none 0 0] 29 (0, 0)) (bk BK182.out) hg (Kd.R_ne HO185.out BK182.out (by decide)))
        have n3_ := Aside0.mk (Kd.R_after (ok := (fun k_ => k_ ≠ gb181)) (rk (Kd.R_mono HO188.out (fun _ hk => ⟨hk.2, hk.1⟩))) hg hat)
        have n4_ := Aside0.mk (hb)
        have n5_ := Aside0.mk (ho)
        clear BK180
        clear BK181
        clear BK182
        clear HO188
        clear HB
        clear HO185
        have BK180 := n0_
        have BK181 := n1_
        have BK182 := n2_
        have HO188 := n3_
        have HB := n4_
        have HO191 := n5_
        clear n0_ n1_ n2_ n3_ n4_ n5_
        clear ho hb hg hat
        obtain ⟨Ao17, co17, eo17⟩ := Kd.R_slice HO191.out
        (first | subst eo17 | (injection eo17 with f1_ f2_ f3_; have f4_ := f1_.symm; have f5_ := f3_.symm; clear f1_ f2_ f3_; subst f4_; subst f5_))
        refine hK.out _ _ ⟨(blk_cell BK180.out 0).trans rfl, (blk_cell BK181.out 0).trans rfl, (blk_cell BK181.out 1).trans rfl, (blk_cell BK181.out 2).trans rfl⟩ (fun hHeld => ?_)
        clear hK K
        refine norm_ (a' := ?_) ?_ ?_
        rotate_left
        ·show Act.put _ (some 12) _ = _
         simp only [Act.put, List.setIfInBounds_toArray, List.set_cons_zero, List.set_cons_succ, i64_w, i32_w]
         rfl
        refine pure_ (i := 6) (N := some 13) (v := ?_) (a' := ?_) #[true, true, true, true, true, true, true, false, false] rfl rfl (any_of HT_.out (by kernel_rfl)) (fun _ _ _ h => h) (Or.inl ⟨by rfl, ?_⟩) ?_ ?_
        rotate_left
        ·intro w'
         go_simp
         with_reducible rfl
        rotate_left
        ·simp only [Act.put, List.setIfInBounds_toArray, List.set_cons_zero, List.set_cons_succ, i64_w, i32_w]
         rfl
        exact norm_ (by first | (simp only [putAll, Act.put, List.setIfInBounds_toArray, List.set_cons_zero, List.set_cons_succ]; done) | (simp only [putAll, Act.put, List.setIfInBounds_toArray, List.set_cons_zero, List.set_cons_succ]; rfl)) (hJ2_4_5 (_, .slice Ao16 y186.length co16, .slice Ao17 y189.length co17) _ ⟨hHeld, (rk (Kd.R_mono HO188.out (fun _ hk => ⟨hk.2, hk.1⟩))), (rk HO191.out), (bk BK180.out), (bk BK181.out), (bk BK182.out), (hB HB.out)⟩)
       ·skip
        refine box_step ?hg (N := 6) ?hd (cs := #[.slice none 0 0]) (t := 29) ?hr ?_; (case hd => rfl); (case hg => rfl); (case hr => first | (go_simp; done) | (go_simp; rfl))
        intro gb192 hg w15 hbox hb
        have n0_ := Aside0.mk (Kd.R_below (rk HO185.out) hb)
        have n1_ := Aside0.mk (Kd.R_below (rk HO188.out) hb)
        have n2_ := Aside0.mk (blk_below (g := gb180) (o := .cells #[.slice A0_0 l0_0.length c0_0] 29 (0, 0)) (bk BK180.out) hb)
        have n3_ := Aside0.mk (blk_below (g := gb181) (o := .cells #[.int .i64 a1_0, .int .i64 a1_1, .int .i64 a1_2] 39 (0, 0)) (bk BK181.out) hb)
        have n4_ := Aside0.mk (blk_below (g := gb182) (o := .cells #[.slice none 0 0] 29 (0, 0)) (bk BK182.out) hb)
        have n5_ := Aside0.mk (below_step (hB HB.out) hb)
        have n6_ := Aside0.mk (hbox)
        have n7_ := Aside0.mk ((by rw [hg]; exact (below_size (hB HB.out)) : w.heap.size ≤ gb192))
        have n8_ := Aside0.mk ((by rw [hg]; exact (below_size (hB HB.out)) : w.heap.size ≤ gb192))
        have n9_ := Aside0.mk ((by rw [hg]; exact Nat.ne_of_lt (blk_lt (g := gb180) (o := .cells #[.slice A0_0 l0_0.length c0_0] 29 (0, 0)) (bk BK180.out)) : gb180 ≠ gb192))
        have n10_ := Aside0.mk ((by rw [hg]; exact Nat.ne_of_gt (blk_lt (g := gb180) (o := .cells #[.slice A0_0 l0_0.length c0_0] 29 (0, 0)) (bk BK180.out)) : gb192 ≠ gb180))
        have n11_ := Aside0.mk ((by rw [hg]; exact Nat.ne_of_lt (blk_lt (g := gb181) (o := .cells #[.int .i64 a1_0, .int .i64 a1_1, .int .i64 a1_2] 39 (0, 0)) (bk BK181.out)) : gb181 ≠ gb192))
        have n12_ := Aside0.mk ((by rw [hg]; exact Nat.ne_of_gt (blk_lt (g := gb181) (o := .cells #[.int .i64 a1_0, .int .i64 a1_1, .int .i64 a1_2] 39 (0, 0)) (bk BK181.out)) : gb192 ≠ gb181))
        have n13_ := Aside0.mk ((by rw [hg]; exact Nat.ne_of_lt (blk_lt (g := gb182) (o := .cells #[.slice none 0 0] 29 (0, 0)) (bk BK182.out)) : gb182 ≠ gb192))
        have n14_ := Aside0.mk ((by rw [hg]; exact Nat.ne_of_gt (blk_lt (g := gb182) (o := .cells #[.slice none 0 0] 29 (0, 0)) (bk BK182.out)) : gb192 ≠ gb182))
        clear HO185
        clear HO188
        clear BK180
        clear BK181
        clear BK182
        clear HB
        have HO185 := n0_
        have HO188 := n1_
        have BK180 := n2_
        have BK181 := n3_
        have BK182 := n4_
        have HB := n5_
        have BK192 := n6_
        have GW192 := n7_
        have GE192 := n8_
        have NB180_192 := n9_
        have NB192_180 := n10_
        have NB181_192 := n11_
        have NB192_181 := n12_
        have NB182_192 := n13_
        have NB192_182 := n14_
        clear n0_ n1_ n2_ n3_ n4_ n5_ n6_ n7_ n8_ n9_ n10_ n11_ n12_ n13_ n14_
        clear hb hbox hg
        refine hK.out _ _ ⟨(blk_cell BK180.out 0).trans rfl, (blk_cell BK181.out 0).trans rfl, (blk_cell BK181.out 1).trans rfl, (blk_cell BK181.out 2).trans rfl⟩ (fun hHeld => ?_)
        clear hK K
        refine norm_ (a' := ?_) ?_ ?_
        rotate_left
        ·show Act.put _ (some 6) _ = _
         simp only [Act.put, List.setIfInBounds_toArray, List.set_cons_zero, List.set_cons_succ, i64_w, i32_w]
         rfl
        exact norm_ (by first | (simp only [putAll, Act.put, List.setIfInBounds_toArray, List.set_cons_zero, List.set_cons_succ]; done) | (simp only [putAll, Act.put, List.setIfInBounds_toArray, List.set_cons_zero, List.set_cons_succ]; rfl)) (hJ2_4_7 (_, _, gb192) _ ⟨hHeld, (rk HO185.out), (rk HO188.out), (bk BK180.out), (bk BK181.out), (bk BK182.out), (bk BK192.out), GW192.out, GE192.out, NB180_192.out, NB192_180.out, NB181_192.out, NB192_181.out, NB182_192.out, NB192_182.out, (hB HB.out)⟩)
     ·skip
      rintro ⟨v184, v187, gb192⟩ w15 ⟨hS_, h0_, h1_, h2_, h3_, h4_, h5_, h6_, h7_, h8_, h9_, h10_, h11_, h12_, h13_, h14_⟩
      have n0_ : Aside0 (Kd.R k39 39 w15 w.heap.size (fun k_ => some k_ ≠ (v187 : Value).ownBlock ∧ k_ ≠ gb181) v184 t183) := ⟨h0_⟩
      have n1_ : Aside0 (Kd.R k39 39 w15 w.heap.size (fun k_ => some k_ ≠ (v184 : Value).ownBlock ∧ k_ ≠ gb181) v187 y186) := ⟨h1_⟩
      have n2_ : Aside0 (w15.heap[gb180]? = some (.cells #[.slice A0_0 l0_0.length c0_0] 29 (0, 0))) := ⟨h2_⟩
      have n3_ : Aside0 (w15.heap[gb181]? = some (.cells #[.int .i64 a1_0, .int .i64 a1_1, .int .i64 a1_2] 39 (0, 0))) := ⟨h3_⟩
      have n4_ : Aside0 (w15.heap[gb182]? = some (.cells #[.slice none 0 0] 29 (0, 0))) := ⟨h4_⟩
      have n5_ : Aside0 (w15.heap[gb192]? = some (.cells #[.slice none 0 0] 29 (0, 0))) := ⟨h5_⟩
      have n6_ : Aside0 (w.heap.size ≤ gb192) := ⟨h6_⟩
      have n7_ : Aside0 (w.heap.size ≤ gb192) := ⟨h7_⟩
      have n8_ : Aside0 (gb180 ≠ gb192) := ⟨h8_⟩
      have n9_ : Aside0 (gb192 ≠ gb180) := ⟨h9_⟩
      have n10_ : Aside0 (gb181 ≠ gb192) := ⟨h10_⟩
      have n11_ : Aside0 (gb192 ≠ gb181) := ⟨h11_⟩
      have n12_ : Aside0 (gb182 ≠ gb192) := ⟨h12_⟩
      have n13_ : Aside0 (gb192 ≠ gb182) := ⟨h13_⟩
      have n14_ : Aside0 (Below w.heap.size w w15) := ⟨h14_⟩
      clear BK180
      clear BK181
      clear BK182
      clear HB
      clear h0_ h1_ h2_ h3_ h4_ h5_ h6_ h7_ h8_ h9_ h10_ h11_ h12_ h13_ h14_
      have HO185 := n0_
      have HO188 := n1_
      have BK180 := n2_
      have BK181 := n3_
      have BK182 := n4_
      have BK192 := n5_
      have GW192 := n6_
      have GE192 := n7_
      have NB180_192 := n8_
      have NB192_180 := n9_
      have NB181_192 := n10_
      have NB192_181 := n11_
      have NB182_192 := n12_
      have NB192_182 := n13_
      have HB := n14_
      clear n0_ n1_ n2_ n3_ n4_ n5_ n6_ n7_ n8_ n9_ n10_ n11_ n12_ n13_ n14_
      have hHeld : w15.cell? ⟨gb180, 0, none⟩ = some (.slice A0_0 l0_0.length c0_0) ∧ w15.cell? ⟨gb181, 0, none⟩ = some (.int .i64 a1_0) ∧ w15.cell? ⟨gb181, 1, none⟩ = some (.int .i64 a1_1) ∧ w15.cell? ⟨gb181, 2, none⟩ = some (.int .i64 a1_2) := hS_
      obtain ⟨Ao17, co17, eo17⟩ := Kd.R_slice HO188.out
      (first | subst eo17 | (injection eo17 with f1_ f2_ f3_; have f4_ := f1_.symm; have f5_ := f3_.symm; clear f1_ f2_ f3_; subst f4_; subst f5_))
      refine norm_ (a' := ?_) ?_ ?_
      rotate_left
      ·simp only [putAll, Act.put, List.setIfInBounds_toArray, List.set_cons_zero, List.set_cons_succ]
       rfl
      refine one_ (i := 5) (N := some 12) #[true, true, true, true, true, true, false, true, false] rfl rfl (one_of HT_.out (by kernel_rfl)) (by decide) (fun K hK => ?_)
      refine Kd.R_append_rows_step k39 (w0 := w) w.heap.size (by rfl) (.tmp 9) (.tmp 11) 27 39 (.agg #[(.int .i64 0), (.int .i64 0), (.int .i64 0)]) 24 rfl Try.underlying27 info39 rfl (by decide) (by omega) v184 t183 y186 _ _ _ (fun k_ => some k_ ≠ (.slice Ao17 y186.length co17 : Value).ownBlock ∧ k_ ≠ gb181) (fun _ => False) rfl rfl ?aO ?aR (fun _ _ h => h) (fun _ h => h.elim) ?aF ?aB ?aS ?aL ?_
      (case aR => repeat (first | exact (Kd.R_reads' HO188.out).2.2 | (with_reducible refine Kd.C_alloc ?_ _) | (with_reducible refine Kd.C_drewN ?_ _) | (with_reducible refine Kd.C_drew ?_)))
      (case aB => exact (hB HB.out))
      (case aF => exact (fun k_ hk => ⟨Kd.fresh' (Kd.R_lt (rk HO188.out)) k_ hk, Kd.freshB (g := gb181) (o := .cells #[.int .i64 a1_0, .int .i64 a1_1, .int .i64 a1_2] 39 (0, 0)) (bk BK181.out) k_ hk⟩))
      (case aO => exact (rk HO185.out))
      (case aS => exact (below_size (hB HB.out)))
      (case aL => have := LMc4.out; omega)
      intro v190 w16 ho hb hg hat
      rw [← Ny189.out] at ho
      have n0_ := Aside0.mk (blk_grown (g := gb180) (o := .cells #[.slice A0_0 l0_0.length c0_0] 29 (0, 0)) (bk BK180.out) hg (Kd.R_ne HO185.out BK180.out (by decide)))
      have n1_ := Aside0.mk (blk_grown (g := gb181) (o := .cells #[.int .i64 a1_0, .int .i64 a1_1, .int .i64 a1_2] 39 (0, 0)) (bk BK181.out) hg (Kd.R_away HO185.out (fun _ hk => hk.2)))
      have n2_ := Aside0.mk (blk_grown (g := gb182) (o := .cells #[.slice none 0 0] 29 (0, 0)) (bk BK182.out) hg (Kd.R_ne HO185.out BK182.out (by decide)))
      have n3_ := Aside0.mk (Kd.R_after (ok := (fun k_ => k_ ≠ gb181)) (rk (Kd.R_mono HO188.out (fun _ hk => ⟨hk.2, hk.1⟩))) hg hat)
      have n4_ := Aside0.mk (blk_grown (g := gb192) (o := .cells #[.slice none 0 0] 29 (0, 0)) (bk BK192.out) hg (Kd.R_ne HO185.out BK192.out (by decide)))
      have n5_ := Aside0.mk (hb)
      have n6_ := Aside0.mk (ho)
      clear BK180
      clear BK181
      clear BK182
      clear HO188
      clear BK192
      clear HB
      clear HO185
      have BK180 := n0_
      have BK181 := n1_
      have BK182 := n2_
      have HO188 := n3_
      have BK192 := n4_
      have HB := n5_
      have HO191 := n6_
      clear n0_ n1_ n2_ n3_ n4_ n5_ n6_
      clear ho hb hg hat
      obtain ⟨Ao18, co18, eo18⟩ := Kd.R_slice HO191.out
      (first | subst eo18 | (injection eo18 with f1_ f2_ f3_; have f4_ := f1_.symm; have f5_ := f3_.symm; clear f1_ f2_ f3_; subst f4_; subst f5_))
      refine hK.out _ _ ⟨(blk_cell BK180.out 0).trans rfl, (blk_cell BK181.out 0).trans rfl, (blk_cell BK181.out 1).trans rfl, (blk_cell BK181.out 2).trans rfl⟩ (fun hHeld => ?_)
      clear hK K
      refine norm_ (a' := ?_) ?_ ?_
      rotate_left
      ·show Act.put _ (some 12) _ = _
       simp only [Act.put, List.setIfInBounds_toArray, List.set_cons_zero, List.set_cons_succ, i64_w, i32_w]
       rfl
      refine pure_ (i := 6) (N := some 13) (v := ?_) (a' := ?_) #[true, true, true, true, true, true, true, true, false] rfl rfl (any_of HT_.out (by kernel_rfl)) (fun _ _ _ h => h) (Or.inl ⟨by rfl, ?_⟩) ?_ ?_
      rotate_left
      ·intro w'
       go_simp
       with_reducible rfl
      rotate_left
      ·simp only [Act.put, List.setIfInBounds_toArray, List.set_cons_zero, List.set_cons_succ, i64_w, i32_w]
       rfl
      exact norm_ (by first | (simp only [putAll, Act.put, List.setIfInBounds_toArray, List.set_cons_zero, List.set_cons_succ]; done) | (simp only [putAll, Act.put, List.setIfInBounds_toArray, List.set_cons_zero, List.set_cons_succ]; rfl)) (hJ2_4_5_7 (_, .slice Ao17 y186.length co17, .slice Ao18 y189.length co18, gb192) _ ⟨hHeld, (rk (Kd.R_mono HO188.out (fun _ hk => ⟨hk.2, hk.1⟩))), (rk HO191.out), (bk BK180.out), (bk BK181.out), (bk BK182.out), (bk BK192.out), GW192.out, GE192.out, NB180_192.out, NB192_180.out, NB181_192.out, NB192_181.out, NB182_192.out, NB192_182.out, (hB HB.out)⟩)
    ·skip
     rintro ⟨v184, v187, v190⟩ w17 ⟨hS_, h0_, h1_, h2_, h3_, h4_, h5_⟩
     have n0_ : Aside0 (Kd.R k39 39 w17 w.heap.size (fun k_ => some k_ ≠ (v190 : Value).ownBlock ∧ k_ ≠ gb181) v187 y186) := ⟨h0_⟩
     have n1_ : Aside0 (Kd.R k39 39 w17 w.heap.size (fun k_ => some k_ ≠ (v187 : Value).ownBlock ∧ k_ ≠ gb181) v190 y189) := ⟨h1_⟩
     have n2_ : Aside0 (w17.heap[gb180]? = some (.cells #[.slice A0_0 l0_0.length c0_0] 29 (0, 0))) := ⟨h2_⟩
     have n3_ : Aside0 (w17.heap[gb181]? = some (.cells #[.int .i64 a1_0, .int .i64 a1_1, .int .i64 a1_2] 39 (0, 0))) := ⟨h3_⟩
     have n4_ : Aside0 (w17.heap[gb182]? = some (.cells #[.slice none 0 0] 29 (0, 0))) := ⟨h4_⟩
     have n5_ : Aside0 (Below w.heap.size w w17) := ⟨h5_⟩
     clear BK180
     clear BK181
     clear BK182
     clear HB
     clear h0_ h1_ h2_ h3_ h4_ h5_
     have HO188 := n0_
     have HO191 := n1_
     have BK180 := n2_
     have BK181 := n3_
     have BK182 := n4_
     have HB := n5_
     clear n0_ n1_ n2_ n3_ n4_ n5_
     have hHeld : w17.cell? ⟨gb180, 0, none⟩ = some (.slice A0_0 l0_0.length c0_0) ∧ w17.cell? ⟨gb181, 0, none⟩ = some (.int .i64 a1_0) ∧ w17.cell? ⟨gb181, 1, none⟩ = some (.int .i64 a1_1) ∧ w17.cell? ⟨gb181, 2, none⟩ = some (.int .i64 a1_2) := hS_
     obtain ⟨Ao18, co18, eo18⟩ := Kd.R_slice HO191.out
     (first | subst eo18 | (injection eo18 with f1_ f2_ f3_; have f4_ := f1_.symm; have f5_ := f3_.symm; clear f1_ f2_ f3_; subst f4_; subst f5_))
     refine norm_ (a' := ?_) ?_ ?_
     rotate_left
     ·simp only [putAll, Act.put, List.setIfInBounds_toArray, List.set_cons_zero, List.set_cons_succ]
      rfl
     refine one_ (i := 7) (N := some 6) #[true, true, true, true, true, true, true, true, false] rfl rfl (one_of HT_.out (by kernel_rfl)) (by decide) (fun K hK => ?_)
     refine box_step ?hg (N := 6) ?hd (cs := #[.slice none 0 0]) (t := 29) ?hr ?_; (case hd => rfl); (case hg => rfl); (case hr => first | (go_simp; done) | (go_simp; rfl))
     intro gb192 hg w19 hbox hb
     have n0_ := Aside0.mk (Kd.R_below (rk HO188.out) hb)
     have n1_ := Aside0.mk (Kd.R_below (rk HO191.out) hb)
     have n2_ := Aside0.mk (blk_below (g := gb180) (o := .cells #[.slice A0_0 l0_0.length c0_0] 29 (0, 0)) (bk BK180.out) hb)
     have n3_ := Aside0.mk (blk_below (g := gb181) (o := .cells #[.int .i64 a1_0, .int .i64 a1_1, .int .i64 a1_2] 39 (0, 0)) (bk BK181.out) hb)
     have n4_ := Aside0.mk (blk_below (g := gb182) (o := .cells #[.slice none 0 0] 29 (0, 0)) (bk BK182.out) hb)
     have n5_ := Aside0.mk (below_step (hB HB.out) hb)
     have n6_ := Aside0.mk (hbox)
     have n7_ := Aside0.mk ((by rw [hg]; exact (below_size (hB HB.out)) : w.heap.size ≤ gb192))
     have n8_ := Aside0.mk ((by rw [hg]; exact (below_size (hB HB.out)) : w.heap.size ≤ gb192))
     have n9_ := Aside0.mk ((by rw [hg]; exact Nat.ne_of_lt (blk_lt (g := gb180) (o := .cells #[.slice A0_0 l0_0.length c0_0] 29 (0, 0)) (bk BK180.out)) : gb180 ≠ gb192))
     have n10_ := Aside0.mk ((by rw [hg]; exact Nat.ne_of_gt (blk_lt (g := gb180) (o := .cells #[.slice A0_0 l0_0.length c0_0] 29 (0, 0)) (bk BK180.out)) : gb192 ≠ gb180))
     have n11_ := Aside0.mk ((by rw [hg]; exact Nat.ne_of_lt (blk_lt (g := gb181) (o := .cells #[.int .i64 a1_0, .int .i64 a1_1, .int .i64 a1_2] 39 (0, 0)) (bk BK181.out)) : gb181 ≠ gb192))
     have n12_ := Aside0.mk ((by rw [hg]; exact Nat.ne_of_gt (blk_lt (g := gb181) (o := .cells #[.int .i64 a1_0, .int .i64 a1_1, .int .i64 a1_2] 39 (0, 0)) (bk BK181.out)) : gb192 ≠ gb181))
     have n13_ := Aside0.mk ((by rw [hg]; exact Nat.ne_of_lt (blk_lt (g := gb182) (o := .cells #[.slice none 0 0] 29 (0, 0)) (bk BK182.out)) : gb182 ≠ gb192))
     have n14_ := Aside0.mk ((by rw [hg]; exact Nat.ne_of_gt (blk_lt (g := gb182) (o := .cells #[.slice none 0 0] 29 (0, 0)) (bk BK182.out)) : gb192 ≠ gb182))
     clear HO188
     clear HO191
     clear BK180
     clear BK181
     clear BK182
     clear HB
     have HO188 := n0_
     have HO191 := n1_
     have BK180 := n2_
     have BK181 := n3_
     have BK182 := n4_
     have HB := n5_
     have BK192 := n6_
     have GW192 := n7_
     have GE192 := n8_
     have NB180_192 := n9_
     have NB192_180 := n10_
     have NB181_192 := n11_
     have NB192_181 := n12_
     have NB182_192 := n13_
     have NB192_182 := n14_
     clear n0_ n1_ n2_ n3_ n4_ n5_ n6_ n7_ n8_ n9_ n10_ n11_ n12_ n13_ n14_
     clear hb hbox hg
     refine hK.out _ _ ⟨(blk_cell BK180.out 0).trans rfl, (blk_cell BK181.out 0).trans rfl, (blk_cell BK181.out 1).trans rfl, (blk_cell BK181.out 2).trans rfl⟩ (fun hHeld => ?_)
     clear hK K
     refine norm_ (a' := ?_) ?_ ?_
     rotate_left
     ·show Act.put _ (some 6) _ = _
      simp only [Act.put, List.setIfInBounds_toArray, List.set_cons_zero, List.set_cons_succ, i64_w, i32_w]
      rfl
     exact norm_ (by first | (simp only [putAll, Act.put, List.setIfInBounds_toArray, List.set_cons_zero, List.set_cons_succ]; done) | (simp only [putAll, Act.put, List.setIfInBounds_toArray, List.set_cons_zero, List.set_cons_succ]; rfl)) (hJ2_4_5_7 (_, _, .slice Ao18 y189.length co18, gb192) _ ⟨hHeld, (rk HO188.out), (rk HO191.out), (bk BK180.out), (bk BK181.out), (bk BK182.out), (bk BK192.out), GW192.out, GE192.out, NB180_192.out, NB192_180.out, NB181_192.out, NB192_181.out, NB182_192.out, NB192_182.out, (hB HB.out)⟩)
   rintro ⟨v184, v187, v190, gb192⟩ w18 ⟨hS_, h0_, h1_, h2_, h3_, h4_, h5_, h6_, h7_, h8_, h9_, h10_, h11_, h12_, h13_, h14_⟩
   have n0_ : Aside0 (Kd.R k39 39 w18 w.heap.size (fun k_ => some k_ ≠ (v190 : Value).ownBlock ∧ k_ ≠ gb181) v187 y186) := ⟨h0_⟩
   have n1_ : Aside0 (Kd.R k39 39 w18 w.heap.size (fun k_ => some k_ ≠ (v187 : Value).ownBlock ∧ k_ ≠ gb181) v190 y189) := ⟨h1_⟩
   have n2_ : Aside0 (w18.heap[gb180]? = some (.cells #[.slice A0_0 l0_0.length c0_0] 29 (0, 0))) := ⟨h2_⟩
   have n3_ : Aside0 (w18.heap[gb181]? = some (.cells #[.int .i64 a1_0, .int .i64 a1_1, .int .i64 a1_2] 39 (0, 0))) := ⟨h3_⟩
   have n4_ : Aside0 (w18.heap[gb182]? = some (.cells #[.slice none 0 0] 29 (0, 0))) := ⟨h4_⟩
   have n5_ : Aside0 (w18.heap[gb192]? = some (.cells #[.slice none 0 0] 29 (0, 0))) := ⟨h5_⟩
   have n6_ : Aside0 (w.heap.size ≤ gb192) := ⟨h6_⟩
   have n7_ : Aside0 (w.heap.size ≤ gb192) := ⟨h7_⟩
   have n8_ : Aside0 (gb180 ≠ gb192) := ⟨h8_⟩
   have n9_ : Aside0 (gb192 ≠ gb180) := ⟨h9_⟩
   have n10_ : Aside0 (gb181 ≠ gb192) := ⟨h10_⟩
   have n11_ : Aside0 (gb192 ≠ gb181) := ⟨h11_⟩
   have n12_ : Aside0 (gb182 ≠ gb192) := ⟨h12_⟩
   have n13_ : Aside0 (gb192 ≠ gb182) := ⟨h13_⟩
   have n14_ : Aside0 (Below w.heap.size w w18) := ⟨h14_⟩
   clear BK180
   clear BK181
   clear BK182
   clear HB
   clear h0_ h1_ h2_ h3_ h4_ h5_ h6_ h7_ h8_ h9_ h10_ h11_ h12_ h13_ h14_
   have HO188 := n0_
   have HO191 := n1_
   have BK180 := n2_
   have BK181 := n3_
   have BK182 := n4_
   have BK192 := n5_
   have GW192 := n6_
   have GE192 := n7_
   have NB180_192 := n8_
   have NB192_180 := n9_
   have NB181_192 := n10_
   have NB192_181 := n11_
   have NB182_192 := n12_
   have NB192_182 := n13_
   have HB := n14_
   clear n0_ n1_ n2_ n3_ n4_ n5_ n6_ n7_ n8_ n9_ n10_ n11_ n12_ n13_ n14_
   have hHeld : w18.cell? ⟨gb180, 0, none⟩ = some (.slice A0_0 l0_0.length c0_0) ∧ w18.cell? ⟨gb181, 0, none⟩ = some (.int .i64 a1_0) ∧ w18.cell? ⟨gb181, 1, none⟩ = some (.int .i64 a1_1) ∧ w18.cell? ⟨gb181, 2, none⟩ = some (.int .i64 a1_2) := hS_
   obtain ⟨Ao19, co19, eo19⟩ := Kd.R_slice HO191.out
   (first | subst eo19 | (injection eo19 with f1_ f2_ f3_; have f4_ := f1_.symm; have f5_ := f3_.symm; clear f1_ f2_ f3_; subst f4_; subst f5_))
   refine norm_ (a' := ?_) ?_ ?_
   rotate_left
   ·simp only [putAll, Act.put, List.setIfInBounds_toArray, List.set_cons_zero, List.set_cons_succ]
    rfl
   refine one_ (i := 8) (N := none) #[true, true, true, true, true, true, true, true, true] rfl rfl (one_of HT_.out (by kernel_rfl)) (by decide) (fun K hK => ?_)
   have hs20 : w18.cell? ⟨gb192, 0, none⟩ = some (.slice none 0 0) := (blk_cell BK192.out 0).trans rfl
   have hfs20 := blk_frozen BK192.out 0
   have hns20_0 := NB180_192.out
   have hns20_1 := NB181_192.out
   have hns20_2 := NB182_192.out
   have hms20_0 := NB192_180.out
   have hms20_1 := NB192_181.out
   have hms20_2 := NB192_182.out
   refine skip_ (w1 := ?_) (by rfl) rfl ?_ ?_
   rotate_left
   ·go_simp
    rfl
   refine hK.out _ _ ⟨((cell_far (p := ⟨gb192, _, none⟩) NB180_192.out _).trans (hHeld.1)), ((cell_far (p := ⟨gb192, _, none⟩) NB181_192.out _).trans (hHeld.2.1)), ((cell_far (p := ⟨gb192, _, none⟩) NB181_192.out _).trans (hHeld.2.2.1)), ((cell_far (p := ⟨gb192, _, none⟩) NB181_192.out _).trans (hHeld.2.2.2))⟩ (fun hHeld => ?_)
   clear hK K
   refine done_ (done_of HT_.out (by kernel_rfl)) ?_
   have hnb21 := NB192_180.out
   have hnc21 := NB180_192.out
   have hnb22 := NB192_181.out
   have hnc22 := NB181_192.out
   have hnb23 := NB192_182.out
   have hnc23 := NB182_192.out
   have hcz24_0 : w18.cell? ⟨gb192, 0, none⟩ = some (.slice none 0 0) := (blk_cell BK192.out 0).trans rfl
   have hfz24_0 := blk_frozen BK192.out 0
   try go_wp2_with (first | ((with_reducible refine gate_callee (f := 18) rfl ?_); refine goesL_ (some 15) rfl rfl Try.func18 (by kernel_rfl) rfl #[.agg #[.slice Ao19 y189.length co19]] rfl (by (try simp only [List.map_toArray, List.map_cons, List.map_nil]); first | done | rfl | (simp only [List.length_drop, List.length_take]; rfl)) ?_; (with_reducible refine (impl_IsPuzzle.calls k _ _ y189 true _ ?side1 ?side2 A5.out).mono ?_); (case side1 => refine (Kd.R_reads' (e := 39) (base := w.heap.size) (ok := fun k_ => (some k_ ≠ (v187 : Value).ownBlock ∧ k_ ≠ gb181)) (n := y189.length) (c := co19) ?_).2.2; exact (rk (Kd.R_mono (Kd.R_far (p := ⟨gb192, 0, none⟩) (Kd.R_types HO191.out BK192.out (by decide)) (fun _ hk => hk.2) (.slice Ao19 y189.length co19)) (fun _ h_ => h_.1)))); (case side2 => exact (Kd.R_reads' HO191.out).2.1); rintro e w25 ⟨rfl, hb⟩; refine ⟨_, rfl, ?_⟩; have n0_ := Aside0.mk (Kd.R_below (rk (Kd.R_mono (Kd.R_far (p := ⟨gb192, 0, none⟩) (Kd.R_types HO188.out BK192.out (by decide)) (fun _ hk => hk.2) (.slice Ao19 y189.length co19)) (fun _ h_ => h_.1))) hb); have n1_ := Aside0.mk (Kd.R_below (rk (Kd.R_mono (Kd.R_far (p := ⟨gb192, 0, none⟩) (Kd.R_types HO191.out BK192.out (by decide)) (fun _ hk => hk.2) (.slice Ao19 y189.length co19)) (fun _ h_ => h_.1))) hb); have n2_ := Aside0.mk (blk_below (g := gb180) (o := .cells #[.slice A0_0 l0_0.length c0_0] 29 (0, 0)) (by (with_reducible repeat (first | refine blk_drewN ?_ _ | refine blk_drew ?_ | refine blk_alloc ?_ _)); refine blk_far ?_ NB180_192.out _; (with_reducible repeat (first | refine blk_drewN ?_ _ | refine blk_drew ?_ | refine blk_alloc ?_ _)); exact BK180.out) hb); have n3_ := Aside0.mk (blk_below (g := gb181) (o := .cells #[.int .i64 a1_0, .int .i64 a1_1, .int .i64 a1_2] 39 (0, 0)) (by (with_reducible repeat (first | refine blk_drewN ?_ _ | refine blk_drew ?_ | refine blk_alloc ?_ _)); refine blk_far ?_ NB181_192.out _; (with_reducible repeat (first | refine blk_drewN ?_ _ | refine blk_drew ?_ | refine blk_alloc ?_ _)); exact BK181.out) hb); have n4_ := Aside0.mk (blk_below (g := gb182) (o := .cells #[.slice none 0 0] 29 (0, 0)) (by (with_reducible repeat (first | refine blk_drewN ?_ _ | refine blk_drew ?_ | refine blk_alloc ?_ _)); refine blk_far ?_ NB182_192.out _; (with_reducible repeat (first | refine blk_drewN ?_ _ | refine blk_drew ?_ | refine blk_alloc ?_ _)); exact BK182.out) hb); have n5_ := Aside0.mk (blk_below (g := gb192) (o := .cells #[.slice Ao19 y189.length co19] 29 (0, 0)) (by (with_reducible repeat (first | refine blk_drewN ?_ _ | refine blk_drew ?_ | refine blk_alloc ?_ _)); refine blk_put (cs := #[.slice none 0 0]) ?_ 0 _ rfl; (with_reducible repeat (first | refine blk_drewN ?_ _ | refine blk_drew ?_ | refine blk_alloc ?_ _)); exact BK192.out) hb); have n6_ := Aside0.mk (below_step (hB HB.out) hb); clear HO188; clear HO191; clear BK180; clear BK181; clear BK182; clear BK192; clear HB; have HO188 := n0_; have HO191 := n1_; have BK180 := n2_; have BK181 := n3_; have BK182 := n4_; have BK192 := n5_; have HB := n6_; clear n0_ n1_ n2_ n3_ n4_ n5_ n6_; (try clear hb); (try clear hb2); (try clear hk); (try clear hi); have hcz26_0 : w25.cell? ⟨gb192, 0, none⟩ = some (.slice Ao19 y189.length co19) := (blk_cell BK192.out 0).trans rfl; have hfz26_0 := blk_frozen BK192.out 0; have hnb27 := NB182_180.out; have hnc27 := NB180_182.out; have hnb28 := NB182_181.out; have hnc28 := NB181_182.out; have hcz29_0 : w25.cell? ⟨gb182, 0, none⟩ = some (.slice none 0 0) := (blk_cell BK182.out 0).trans rfl; have hfz29_0 := blk_frozen BK182.out 0))
   refine bodyPost_ret (results_ct rfl _ _ gb182 29 #[.slice Ao19 y189.length co19] (0, 0) _ rfl (by (with_reducible repeat (first | refine blk_drewN ?_ _ | refine blk_drew ?_ | refine blk_alloc ?_ _)); refine blk_put (cs := #[.slice none 0 0]) ?_ 0 _ rfl; (with_reducible repeat (first | refine blk_drewN ?_ _ | refine blk_drew ?_ | refine blk_alloc ?_ _)); exact BK182.out) Try.underlying29 rfl (by kernel_rfl)) rfl ?_
   exact ⟨_, by first | rfl | (simp [errW_none, errW_some] <;> rfl) | (simp [*, errW_none, errW_some] <;> rfl), rk (Kd.R_mono (Kd.R_far (p := ⟨gb182, 0, none⟩) (Kd.R_types HO191.out BK182.out (by decide)) (fun _ hk => hk.2) (.slice Ao19 y189.length co19)) (fun _ hk => trivial)), hB HB.out⟩
  ·replace c6 := Bool.eq_false_iff.mpr c6
   subst c6
   have H1 : (some (([] : List (S39)), false)) = some (r1, r2) := by rw [if_neg (show ¬ (false = true) by decide)] at H; exact H
   clear H
   have H := H1
   clear H1
   simp only [Option.some.injEq, Prod.mk.injEq] at H
   obtain ⟨rfl, rfl⟩ := H
   go_enter Try.func25, Try.ntmps25
   try go_wp2_with (first | ((with_reducible refine gate_dst (N := 2) rfl ?_); refine box_event ?hg (N := 2) ?hd (cs := #[.slice A0_0 l0_0.length c0_0]) (t := 29) ?hr ?_; (case hd => rfl); (case hg => rfl); (case hr => first | (go_simp; done) | (go_simp; rfl)); intro gb180 hg w30 hbox hb; have n0_ := Aside0.mk (below_step (hB HB.out) hb); have n1_ := Aside0.mk (hbox); have n2_ := Aside0.mk ((by rw [hg]; exact (below_size (hB HB.out)) : w.heap.size ≤ gb180)); have n3_ := Aside0.mk ((by rw [hg]; exact (below_size (hB HB.out)) : w.heap.size ≤ gb180)); clear HB; have HB := n0_; have BK180 := n1_; have GW180 := n2_; have GE180 := n3_; clear n0_ n1_ n2_ n3_; clear hb hbox hg) | ((with_reducible refine gate_dst (N := 3) rfl ?_); refine box_event ?hg (N := 3) ?hd (cs := #[.int .i64 a1_0, .int .i64 a1_1, .int .i64 a1_2]) (t := 39) ?hr ?_; (case hd => rfl); (case hg => rfl); (case hr => first | (go_simp; done) | (go_simp; rfl)); intro gb181 hg w31 hbox hb; have n0_ := Aside0.mk (blk_below (g := gb180) (o := .cells #[.slice A0_0 l0_0.length c0_0] 29 (0, 0)) (bk BK180.out) hb); have n1_ := Aside0.mk (below_step (hB HB.out) hb); have n2_ := Aside0.mk (hbox); have n3_ := Aside0.mk ((by rw [hg]; exact (below_size (hB HB.out)) : w.heap.size ≤ gb181)); have n4_ := Aside0.mk ((by rw [hg]; exact (below_size (hB HB.out)) : w.heap.size ≤ gb181)); have n5_ := Aside0.mk ((by rw [hg]; exact Nat.ne_of_lt (blk_lt (g := gb180) (o := .cells #[.slice A0_0 l0_0.length c0_0] 29 (0, 0)) (bk BK180.out)) : gb180 ≠ gb181)); have n6_ := Aside0.mk ((by rw [hg]; exact Nat.ne_of_gt (blk_lt (g := gb180) (o := .cells #[.slice A0_0 l0_0.length c0_0] 29 (0, 0)) (bk BK180.out)) : gb181 ≠ gb180)); clear BK180; clear HB; have BK180 := n0_; have HB := n1_; have BK181 := n2_; have GW181 := n3_; have GE181 := n4_; have NB180_181 := n5_; have NB181_180 := n6_; clear n0_ n1_ n2_ n3_ n4_ n5_ n6_; clear hb hbox hg) | ((with_reducible refine gate_dst (N := 4) rfl ?_); refine box_event ?hg (N := 4) ?hd (cs := #[.slice none 0 0]) (t := 29) ?hr ?_; (case hd => rfl); (case hg => rfl); (case hr => first | (go_simp; done) | (go_simp; rfl)); intro gb182 hg w32 hbox hb; have n0_ := Aside0.mk (blk_below (g := gb180) (o := .cells #[.slice A0_0 l0_0.length c0_0] 29 (0, 0)) (bk BK180.out) hb); have n1_ := Aside0.mk (blk_below (g := gb181) (o := .cells #[.int .i64 a1_0, .int .i64 a1_1, .int .i64 a1_2] 39 (0, 0)) (bk BK181.out) hb); have n2_ := Aside0.mk (below_step (hB HB.out) hb); have n3_ := Aside0.mk (hbox); have n4_ := Aside0.mk ((by rw [hg]; exact (below_size (hB HB.out)) : w.heap.size ≤ gb182)); have n5_ := Aside0.mk ((by rw [hg]; exact (below_size (hB HB.out)) : w.heap.size ≤ gb182)); have n6_ := Aside0.mk ((by rw [hg]; exact Nat.ne_of_lt (blk_lt (g := gb180) (o := .cells #[.slice A0_0 l0_0.length c0_0] 29 (0, 0)) (bk BK180.out)) : gb180 ≠ gb182)); have n7_ := Aside0.mk ((by rw [hg]; exact Nat.ne_of_gt (blk_lt (g := gb180) (o := .cells #[.slice A0_0 l0_0.length c0_0] 29 (0, 0)) (bk BK180.out)) : gb182 ≠ gb180)); have n8_ := Aside0.mk ((by rw [hg]; exact Nat.ne_of_lt (blk_lt (g := gb181) (o := .cells #[.int .i64 a1_0, .int .i64 a1_1, .int .i64 a1_2] 39 (0, 0)) (bk BK181.out)) : gb181 ≠ gb182)); have n9_ := Aside0.mk ((by rw [hg]; exact Nat.ne_of_gt (blk_lt (g := gb181) (o := .cells #[.int .i64 a1_0, .int .i64 a1_1, .int .i64 a1_2] 39 (0, 0)) (bk BK181.out)) : gb182 ≠ gb181)); clear BK180; clear BK181; clear HB; have BK180 := n0_; have BK181 := n1_; have HB := n2_; have BK182 := n3_; have GW182 := n4_; have GE182 := n5_; have NB180_182 := n6_; have NB182_180 := n7_; have NB181_182 := n8_; have NB182_181 := n9_; clear n0_ n1_ n2_ n3_ n4_ n5_ n6_ n7_ n8_ n9_; clear hb hbox hg))
   have n0_ := Aside0.mk (blk_drew BK180.out)
   have n1_ := Aside0.mk (blk_drew BK181.out)
   have n2_ := Aside0.mk (blk_drew BK182.out)
   have n3_ := Aside0.mk (below_drew1 HB.out)
   clear BK180
   clear BK181
   clear BK182
   clear HB
   have BK180 := n0_
   have BK181 := n1_
   have BK182 := n2_
   have HB := n3_
   clear n0_ n1_ n2_ n3_
   refine start_ (n := 9) (S := fun w' => w'.cell? ⟨gb180, 0, none⟩ = some (.slice A0_0 l0_0.length c0_0) ∧ w'.cell? ⟨gb181, 0, none⟩ = some (.int .i64 a1_0) ∧ w'.cell? ⟨gb181, 1, none⟩ = some (.int .i64 a1_1) ∧ w'.cell? ⟨gb181, 2, none⟩ = some (.int .i64 a1_2)) (ds := []) #[false, false, false, false, false, false, false, false, false] (by kernel_rfl) rfl rfl ⟨(blk_cell BK180.out 0).trans rfl, (blk_cell BK181.out 0).trans rfl, (blk_cell BK181.out 1).trans rfl, (blk_cell BK181.out 2).trans rfl⟩ (fun hHeld => ?_); refine with_tabW impl_AddClue.tab1 impl_AddClue.bits1 (fun HT_ HW_ => ?_)
   generalize w32.drew = w33 at BK180 BK181 BK182 HB hHeld ⊢
   refine pure_ (i := 0) (N := some 7) (v := ?_) (a' := ?_) #[true, false, false, false, false, false, false, false, false] rfl rfl (any_of HT_.out (by kernel_rfl)) (fun _ _ _ h => h) (Or.inl ⟨by rfl, ?_⟩) ?_ ?_
   rotate_left
   ·intro w'
    go_simp
    with_reducible rfl
   rotate_left
   ·simp only [Act.put, List.setIfInBounds_toArray, List.set_cons_zero, List.set_cons_succ, i64_w, i32_w]
    rfl
   refine take_ (i := 1) (N := some 8) (v := ?_) (a' := ?_) #[true, true, false, false, false, false, false, false, false] rfl rfl (take_ofW HT_.out HW_.out (by kernel_rfl)) (fun _ _ _ h => h) (Or.inl ⟨by rfl, ?_⟩) hHeld ?_ ?_
   rotate_left
   ·rintro w' ⟨s0, s1, s2, s3⟩
    go_simp
    with_reducible rfl
   rotate_left
   ·simp only [Act.put, List.setIfInBounds_toArray, List.set_cons_zero, List.set_cons_succ, i64_w, i32_w]
    rfl
   refine take_ (i := 3) (N := some 10) (v := ?_) (a' := ?_) #[true, true, false, true, false, false, false, false, false] rfl rfl (take_ofW HT_.out HW_.out (by kernel_rfl)) (fun _ _ _ h => h) (Or.inl ⟨by rfl, ?_⟩) hHeld ?_ ?_
   rotate_left
   ·rintro w' ⟨s0, s1, s2, s3⟩
    go_simp
    with_reducible rfl
   rotate_left
   ·simp only [Act.put, List.setIfInBounds_toArray, List.set_cons_zero, List.set_cons_succ, i64_w, i32_w]
    rfl
   refine join_ (σ := Value × Value × Value × Nat) 1 #[true, true, true, true, true, true, true, true, false] (fun s_ => [(9, s_.1), (11, s_.2.1), (12, s_.2.2.1), (6, .pointer (some ⟨s_.2.2.2, 0, none⟩)), (13, .agg #[s_.2.2.1])]) (fun s_ w' => (w'.cell? ⟨gb180, 0, none⟩ = some (.slice A0_0 l0_0.length c0_0) ∧ w'.cell? ⟨gb181, 0, none⟩ = some (.int .i64 a1_0) ∧ w'.cell? ⟨gb181, 1, none⟩ = some (.int .i64 a1_1) ∧ w'.cell? ⟨gb181, 2, none⟩ = some (.int .i64 a1_2)) ∧ (Kd.R k39 39 w' w.heap.size (fun k_ => some k_ ≠ (s_.2.2.1 : Value).ownBlock ∧ k_ ≠ gb181) s_.2.1 y186) ∧ (Kd.R k39 39 w' w.heap.size (fun k_ => some k_ ≠ (s_.2.1 : Value).ownBlock ∧ k_ ≠ gb181) s_.2.2.1 y189) ∧ (w'.heap[gb180]? = some (.cells #[.slice A0_0 l0_0.length c0_0] 29 (0, 0))) ∧ (w'.heap[gb181]? = some (.cells #[.int .i64 a1_0, .int .i64 a1_1, .int .i64 a1_2] 39 (0, 0))) ∧ (w'.heap[gb182]? = some (.cells #[.slice none 0 0] 29 (0, 0))) ∧ (w'.heap[s_.2.2.2]? = some (.cells #[.slice none 0 0] 29 (0, 0))) ∧ (w.heap.size ≤ s_.2.2.2) ∧ (w.heap.size ≤ s_.2.2.2) ∧ (gb180 ≠ s_.2.2.2) ∧ (s_.2.2.2 ≠ gb180) ∧ (gb181 ≠ s_.2.2.2) ∧ (s_.2.2.2 ≠ gb181) ∧ (gb182 ≠ s_.2.2.2) ∧ (s_.2.2.2 ≠ gb182) ∧ (Below w.heap.size w w')) ?_ ?_
   rotate_left
   ·intro hJ2_4_5_7
    refine join_ (σ := Value × Value × Value) 2 #[true, true, true, true, true, true, true, false, false] (fun s_ => [(9, s_.1), (11, s_.2.1), (12, s_.2.2), (13, .agg #[s_.2.2])]) (fun s_ w' => (w'.cell? ⟨gb180, 0, none⟩ = some (.slice A0_0 l0_0.length c0_0) ∧ w'.cell? ⟨gb181, 0, none⟩ = some (.int .i64 a1_0) ∧ w'.cell? ⟨gb181, 1, none⟩ = some (.int .i64 a1_1) ∧ w'.cell? ⟨gb181, 2, none⟩ = some (.int .i64 a1_2)) ∧ (Kd.R k39 39 w' w.heap.size (fun k_ => some k_ ≠ (s_.2.2 : Value).ownBlock ∧ k_ ≠ gb181) s_.2.1 y186) ∧ (Kd.R k39 39 w' w.heap.size (fun k_ => some k_ ≠ (s_.2.1 : Value).ownBlock ∧ k_ ≠ gb181) s_.2.2 y189) ∧ (w'.heap[gb180]? = some (.cells #[.slice A0_0 l0_0.length c0_0] 29 (0, 0))) ∧ (w'.heap[gb181]? = some (.cells #[.int .i64 a1_0, .int .i64 a1_1, .int .i64 a1_2] 39 (0, 0))) ∧ (w'.heap[gb182]? = some (.cells #[.slice none 0 0] 29 (0, 0))) ∧ (Below w.heap.size w w')) ?_ ?_
    rotate_left
    ·intro hJ2_4_5
     refine join_ (σ := Value × Value × Nat) 3 #[true, true, true, true, true, false, false, true, false] (fun s_ => [(9, s_.1), (11, s_.2.1), (6, .pointer (some ⟨s_.2.2, 0, none⟩))]) (fun s_ w' => (w'.cell? ⟨gb180, 0, none⟩ = some (.slice A0_0 l0_0.length c0_0) ∧ w'.cell? ⟨gb181, 0, none⟩ = some (.int .i64 a1_0) ∧ w'.cell? ⟨gb181, 1, none⟩ = some (.int .i64 a1_1) ∧ w'.cell? ⟨gb181, 2, none⟩ = some (.int .i64 a1_2)) ∧ (Kd.R k39 39 w' w.heap.size (fun k_ => some k_ ≠ (s_.2.1 : Value).ownBlock ∧ k_ ≠ gb181) s_.1 t183) ∧ (Kd.R k39 39 w' w.heap.size (fun k_ => some k_ ≠ (s_.1 : Value).ownBlock ∧ k_ ≠ gb181) s_.2.1 y186) ∧ (w'.heap[gb180]? = some (.cells #[.slice A0_0 l0_0.length c0_0] 29 (0, 0))) ∧ (w'.heap[gb181]? = some (.cells #[.int .i64 a1_0, .int .i64 a1_1, .int .i64 a1_2] 39 (0, 0))) ∧ (w'.heap[gb182]? = some (.cells #[.slice none 0 0] 29 (0, 0))) ∧ (w'.heap[s_.2.2]? = some (.cells #[.slice none 0 0] 29 (0, 0))) ∧ (w.heap.size ≤ s_.2.2) ∧ (w.heap.size ≤ s_.2.2) ∧ (gb180 ≠ s_.2.2) ∧ (s_.2.2 ≠ gb180) ∧ (gb181 ≠ s_.2.2) ∧ (s_.2.2 ≠ gb181) ∧ (gb182 ≠ s_.2.2) ∧ (s_.2.2 ≠ gb182) ∧ (Below w.heap.size w w')) ?_ ?_
     rotate_left
     ·intro hJ2_4_7
      refine join_ (σ := Value × Value) 4 #[true, true, true, true, true, false, false, false, false] (fun s_ => [(9, s_.1), (11, s_.2)]) (fun s_ w' => (w'.cell? ⟨gb180, 0, none⟩ = some (.slice A0_0 l0_0.length c0_0) ∧ w'.cell? ⟨gb181, 0, none⟩ = some (.int .i64 a1_0) ∧ w'.cell? ⟨gb181, 1, none⟩ = some (.int .i64 a1_1) ∧ w'.cell? ⟨gb181, 2, none⟩ = some (.int .i64 a1_2)) ∧ (Kd.R k39 39 w' w.heap.size (fun k_ => some k_ ≠ (s_.2 : Value).ownBlock ∧ k_ ≠ gb181) s_.1 t183) ∧ (Kd.R k39 39 w' w.heap.size (fun k_ => some k_ ≠ (s_.1 : Value).ownBlock ∧ k_ ≠ gb181) s_.2 y186) ∧ (w'.heap[gb180]? = some (.cells #[.slice A0_0 l0_0.length c0_0] 29 (0, 0))) ∧ (w'.heap[gb181]? = some (.cells #[.int .i64 a1_0, .int .i64 a1_1, .int .i64 a1_2] 39 (0, 0))) ∧ (w'.heap[gb182]? = some (.cells #[.slice none 0 0] 29 (0, 0))) ∧ (Below w.heap.size w w')) ?_ ?_
      rotate_left
      ·intro hJ2_4
       refine join_ (σ := Value × Nat) 4 #[true, true, true, true, false, false, false, true, false] (fun s_ => [(9, s_.1), (6, .pointer (some ⟨s_.2, 0, none⟩))]) (fun s_ w' => (w'.cell? ⟨gb180, 0, none⟩ = some (.slice A0_0 l0_0.length c0_0) ∧ w'.cell? ⟨gb181, 0, none⟩ = some (.int .i64 a1_0) ∧ w'.cell? ⟨gb181, 1, none⟩ = some (.int .i64 a1_1) ∧ w'.cell? ⟨gb181, 2, none⟩ = some (.int .i64 a1_2)) ∧ (Kd.R k39 39 w' w.heap.size (fun k_ => k_ ≠ gb181) s_.1 t183) ∧ (w'.heap[gb180]? = some (.cells #[.slice A0_0 l0_0.length c0_0] 29 (0, 0))) ∧ (w'.heap[gb181]? = some (.cells #[.int .i64 a1_0, .int .i64 a1_1, .int .i64 a1_2] 39 (0, 0))) ∧ (w'.heap[gb182]? = some (.cells #[.slice none 0 0] 29 (0, 0))) ∧ (w'.heap[s_.2]? = some (.cells #[.slice none 0 0] 29 (0, 0))) ∧ (w.heap.size ≤ s_.2) ∧ (w.heap.size ≤ s_.2) ∧ (gb180 ≠ s_.2) ∧ (s_.2 ≠ gb180) ∧ (gb181 ≠ s_.2) ∧ (s_.2 ≠ gb181) ∧ (gb182 ≠ s_.2) ∧ (s_.2 ≠ gb182) ∧ (Below w.heap.size w w')) ?_ ?_
       rotate_left
       ·intro hJ2_7
        refine join_ (σ := Value × Nat) 4 #[true, true, false, true, true, false, false, true, false] (fun s_ => [(11, s_.1), (6, .pointer (some ⟨s_.2, 0, none⟩))]) (fun s_ w' => (w'.cell? ⟨gb180, 0, none⟩ = some (.slice A0_0 l0_0.length c0_0) ∧ w'.cell? ⟨gb181, 0, none⟩ = some (.int .i64 a1_0) ∧ w'.cell? ⟨gb181, 1, none⟩ = some (.int .i64 a1_1) ∧ w'.cell? ⟨gb181, 2, none⟩ = some (.int .i64 a1_2)) ∧ (Kd.R k39 39 w' w.heap.size (fun k_ => k_ ≠ gb181) s_.1 y186) ∧ (w'.heap[gb180]? = some (.cells #[.slice A0_0 l0_0.length c0_0] 29 (0, 0))) ∧ (w'.heap[gb181]? = some (.cells #[.int .i64 a1_0, .int .i64 a1_1, .int .i64 a1_2] 39 (0, 0))) ∧ (w'.heap[gb182]? = some (.cells #[.slice none 0 0] 29 (0, 0))) ∧ (w'.heap[s_.2]? = some (.cells #[.slice none 0 0] 29 (0, 0))) ∧ (w.heap.size ≤ s_.2) ∧ (w.heap.size ≤ s_.2) ∧ (gb180 ≠ s_.2) ∧ (s_.2 ≠ gb180) ∧ (gb181 ≠ s_.2) ∧ (s_.2 ≠ gb181) ∧ (gb182 ≠ s_.2) ∧ (s_.2 ≠ gb182) ∧ (Below w.heap.size w w')) ?_ ?_
        rotate_left
        ·intro hJ4_7
         refine join_ (σ := Value) 5 #[true, true, true, true, false, false, false, false, false] (fun s_ => [(9, s_)]) (fun s_ w' => (w'.cell? ⟨gb180, 0, none⟩ = some (.slice A0_0 l0_0.length c0_0) ∧ w'.cell? ⟨gb181, 0, none⟩ = some (.int .i64 a1_0) ∧ w'.cell? ⟨gb181, 1, none⟩ = some (.int .i64 a1_1) ∧ w'.cell? ⟨gb181, 2, none⟩ = some (.int .i64 a1_2)) ∧ (Kd.R k39 39 w' w.heap.size (fun k_ => k_ ≠ gb181) s_ t183) ∧ (w'.heap[gb180]? = some (.cells #[.slice A0_0 l0_0.length c0_0] 29 (0, 0))) ∧ (w'.heap[gb181]? = some (.cells #[.int .i64 a1_0, .int .i64 a1_1, .int .i64 a1_2] 39 (0, 0))) ∧ (w'.heap[gb182]? = some (.cells #[.slice none 0 0] 29 (0, 0))) ∧ (Below w.heap.size w w')) ?_ ?_
         rotate_left
         ·intro hJ2
          refine join_ (σ := Value) 5 #[true, true, false, true, true, false, false, false, false] (fun s_ => [(11, s_)]) (fun s_ w' => (w'.cell? ⟨gb180, 0, none⟩ = some (.slice A0_0 l0_0.length c0_0) ∧ w'.cell? ⟨gb181, 0, none⟩ = some (.int .i64 a1_0) ∧ w'.cell? ⟨gb181, 1, none⟩ = some (.int .i64 a1_1) ∧ w'.cell? ⟨gb181, 2, none⟩ = some (.int .i64 a1_2)) ∧ (Kd.R k39 39 w' w.heap.size (fun k_ => k_ ≠ gb181) s_ y186) ∧ (w'.heap[gb180]? = some (.cells #[.slice A0_0 l0_0.length c0_0] 29 (0, 0))) ∧ (w'.heap[gb181]? = some (.cells #[.int .i64 a1_0, .int .i64 a1_1, .int .i64 a1_2] 39 (0, 0))) ∧ (w'.heap[gb182]? = some (.cells #[.slice none 0 0] 29 (0, 0))) ∧ (Below w.heap.size w w')) ?_ ?_
          rotate_left
          ·intro hJ4
           refine join_ (σ := Nat) 5 #[true, true, false, true, false, false, false, true, false] (fun s_ => [(6, .pointer (some ⟨s_, 0, none⟩))]) (fun s_ w' => (w'.cell? ⟨gb180, 0, none⟩ = some (.slice A0_0 l0_0.length c0_0) ∧ w'.cell? ⟨gb181, 0, none⟩ = some (.int .i64 a1_0) ∧ w'.cell? ⟨gb181, 1, none⟩ = some (.int .i64 a1_1) ∧ w'.cell? ⟨gb181, 2, none⟩ = some (.int .i64 a1_2)) ∧ (w'.heap[gb180]? = some (.cells #[.slice A0_0 l0_0.length c0_0] 29 (0, 0))) ∧ (w'.heap[gb181]? = some (.cells #[.int .i64 a1_0, .int .i64 a1_1, .int .i64 a1_2] 39 (0, 0))) ∧ (w'.heap[gb182]? = some (.cells #[.slice none 0 0] 29 (0, 0))) ∧ (w'.heap[s_]? = some (.cells #[.slice none 0 0] 29 (0, 0))) ∧ (w.heap.size ≤ s_) ∧ (w.heap.size ≤ s_) ∧ (gb180 ≠ s_) ∧ (s_ ≠ gb180) ∧ (gb181 ≠ s_) ∧ (s_ ≠ gb181) ∧ (gb182 ≠ s_) ∧ (s_ ≠ gb182) ∧ (Below w.heap.size w w')) ?_ ?_
           rotate_left
           ·intro hJ7
            refine three_ (i := 2) (j := 4) (k := 7) (Ni := some 9) (Nj := some 11) (Nk := some 6) #[true, true, true, true, false, false, false, false, false] #[true, true, false, true, true, false, false, false, false] #[true, true, false, true, false, false, false, true, false] rfl rfl rfl rfl rfl rfl (three_of HT_.out (by kernel_rfl)) (by decide) (by decide) (by decide) (fun K hK => ?_) (fun K hK => ?_) (fun K hK => ?_)
            ·skip
             refine goes_ Try.func65 (by kernel_rfl) rfl #[.slice A0_0 l0_0.length c0_0] (by rfl) rfl rfl (by (try simp only [List.map_toArray, List.map_cons, List.map_nil]); first | done | rfl | (simp only [List.length_drop, List.length_take]; rfl)) ?_
             with_reducible refine (slices_Clone_impl_Clue_impl_Clue.calls _ _ l0_0 t183 _ ?side1 ?side2 A3.out).mono ?_
             (case side1 => repeat (first | exact (Kd.C_below HR0_0.out HB.out) | (with_reducible refine Kd.C_alloc ?_ _) | (with_reducible refine Kd.C_drewN ?_ _) | (with_reducible refine Kd.C_drew ?_)))
             (case side2 => exact HC0_0.out)
             rintro e w34 ⟨v184, rfl, ho0, hb⟩
             refine ⟨_, rfl, ?_⟩
             have n0_ := Aside0.mk (Kd.R_lower (Kd.R_newB ho0 (g := gb181) (o := .cells #[.int .i64 a1_0, .int .i64 a1_1, .int .i64 a1_2] 39 (0, 0)) (bk BK181.out)) (below_size (hB HB.out)))
             have n1_ := Aside0.mk (blk_below (g := gb180) (o := .cells #[.slice A0_0 l0_0.length c0_0] 29 (0, 0)) (bk BK180.out) hb)
             have n2_ := Aside0.mk (blk_below (g := gb181) (o := .cells #[.int .i64 a1_0, .int .i64 a1_1, .int .i64 a1_2] 39 (0, 0)) (bk BK181.out) hb)
             have n3_ := Aside0.mk (blk_below (g := gb182) (o := .cells #[.slice none 0 0] 29 (0, 0)) (bk BK182.out) hb)
             have n4_ := Aside0.mk (below_step (hB HB.out) hb)
             clear BK180
             clear BK181
             clear BK182
             clear HB
             have HO185 := n0_
             have BK180 := n1_
             have BK181 := n2_
             have BK182 := n3_
             have HB := n4_
             clear n0_ n1_ n2_ n3_ n4_
             (try clear hb)
             (try clear hb2)
             (try clear hk)
             (try clear hi)
             (try clear ho0)
             refine hK.out _ _ ⟨(blk_cell BK180.out 0).trans rfl, (blk_cell BK181.out 0).trans rfl, (blk_cell BK181.out 1).trans rfl, (blk_cell BK181.out 2).trans rfl⟩ (fun hHeld => ?_)
             clear hK K
             refine norm_ (a' := ?_) ?_ ?_
             rotate_left
             ·show Act.put _ (some 9) _ = _
              simp only [Act.put, List.setIfInBounds_toArray, List.set_cons_zero, List.set_cons_succ, i64_w, i32_w]
              rfl
             exact norm_ (by first | (simp only [putAll, Act.put, List.setIfInBounds_toArray, List.set_cons_zero, List.set_cons_succ]; done) | (simp only [putAll, Act.put, List.setIfInBounds_toArray, List.set_cons_zero, List.set_cons_succ]; rfl)) (hJ2 (_) _ ⟨hHeld, (rk (Kd.R_mono HO185.out (fun _ hk => hk.2))), (bk BK180.out), (bk BK181.out), (bk BK182.out), (hB HB.out)⟩)
            ·skip
             refine Kd.R_lit_step k39 _ 39 ?hg (N := 11) ?hd (xs := ([(⟨a1_0, a1_1, a1_2⟩ : S39)] : List (S39))) (inner := [.int .i64 a1_0, .int .i64 a1_1, .int .i64 a1_2]) (ok := fun _ => True) (okp := fun _ => True) ?hr ?hp (fun _ hk => hk) trivial (Below.refl _ _) (Nat.le_refl _) (by simp) ?_; (case hd => rfl); (case hg => rfl); (case hr => first | (go_simp; done) | (go_simp; rfl)); (case hp => exact (Reps.c3 (show Kd.M k39 _ _ _ (⟨a1_0, a1_1, a1_2⟩ : S39) [.int .i64 a1_0, .int .i64 a1_1, .int .i64 a1_2] from (k39_mkM _ _ _ (⟨a1_0, a1_1, a1_2⟩ : S39) )) (Reps.none _ _)))
             intro v187 w34 ho35 hb hg_ hnew_
             clear hg_ hnew_
             (first | rw [← Ny186.out] at ho35 | (simp only [Int.reduceToNat] at ho35; rw [← Ny186.out] at ho35))
             have n0_ := Aside0.mk (Kd.R_lower (Kd.R_newB ho35 (g := gb181) (o := .cells #[.int .i64 a1_0, .int .i64 a1_1, .int .i64 a1_2] 39 (0, 0)) (bk BK181.out)) (below_size (hB HB.out)))
             have n1_ := Aside0.mk (blk_below (g := gb180) (o := .cells #[.slice A0_0 l0_0.length c0_0] 29 (0, 0)) (bk BK180.out) hb)
             have n2_ := Aside0.mk (blk_below (g := gb181) (o := .cells #[.int .i64 a1_0, .int .i64 a1_1, .int .i64 a1_2] 39 (0, 0)) (bk BK181.out) hb)
             have n3_ := Aside0.mk (blk_below (g := gb182) (o := .cells #[.slice none 0 0] 29 (0, 0)) (bk BK182.out) hb)
             have n4_ := Aside0.mk (below_step (hB HB.out) hb)
             clear BK180
             clear BK181
             clear BK182
             clear HB
             have HO188 := n0_
             have BK180 := n1_
             have BK181 := n2_
             have BK182 := n3_
             have HB := n4_
             clear n0_ n1_ n2_ n3_ n4_
             clear hb ho35
             refine hK.out _ _ ⟨(blk_cell BK180.out 0).trans rfl, (blk_cell BK181.out 0).trans rfl, (blk_cell BK181.out 1).trans rfl, (blk_cell BK181.out 2).trans rfl⟩ (fun hHeld => ?_)
             clear hK K
             refine norm_ (a' := ?_) ?_ ?_
             rotate_left
             ·show Act.put _ (some 11) _ = _
              simp only [Act.put, List.setIfInBounds_toArray, List.set_cons_zero, List.set_cons_succ, i64_w, i32_w]
              rfl
             exact norm_ (by first | (simp only [putAll, Act.put, List.setIfInBounds_toArray, List.set_cons_zero, List.set_cons_succ]; done) | (simp only [putAll, Act.put, List.setIfInBounds_toArray, List.set_cons_zero, List.set_cons_succ]; rfl)) (hJ4 (_) _ ⟨hHeld, (rk (Kd.R_mono HO188.out (fun _ hk => hk.2))), (bk BK180.out), (bk BK181.out), (bk BK182.out), (hB HB.out)⟩)
            ·skip
             refine box_step ?hg (N := 6) ?hd (cs := #[.slice none 0 0]) (t := 29) ?hr ?_; (case hd => rfl); (case hg => rfl); (case hr => first | (go_simp; done) | (go_simp; rfl))
             intro gb192 hg w34 hbox hb
             have n0_ := Aside0.mk (blk_below (g := gb180) (o := .cells #[.slice A0_0 l0_0.length c0_0] 29 (0, 0)) (bk BK180.out) hb)
             have n1_ := Aside0.mk (blk_below (g := gb181) (o := .cells #[.int .i64 a1_0, .int .i64 a1_1, .int .i64 a1_2] 39 (0, 0)) (bk BK181.out) hb)
             have n2_ := Aside0.mk (blk_below (g := gb182) (o := .cells #[.slice none 0 0] 29 (0, 0)) (bk BK182.out) hb)
             have n3_ := Aside0.mk (below_step (hB HB.out) hb)
             have n4_ := Aside0.mk (hbox)
             have n5_ := Aside0.mk ((by rw [hg]; exact (below_size (hB HB.out)) : w.heap.size ≤ gb192))
             have n6_ := Aside0.mk ((by rw [hg]; exact (below_size (hB HB.out)) : w.heap.size ≤ gb192))
             have n7_ := Aside0.mk ((by rw [hg]; exact Nat.ne_of_lt (blk_lt (g := gb180) (o := .cells #[.slice A0_0 l0_0.length c0_0] 29 (0, 0)) (bk BK180.out)) : gb180 ≠ gb192))
             have n8_ := Aside0.mk ((by rw [hg]; exact Nat.ne_of_gt (blk_lt (g := gb180) (o := .cells #[.slice A0_0 l0_0.length c0_0] 29 (0, 0)) (bk BK180.out)) : gb192 ≠ gb180))
             have n9_ := Aside0.mk ((by rw [hg]; exact Nat.ne_of_lt (blk_lt (g := gb181) (o := .cells #[.int .i64 a1_0, .int .i64 a1_1, .int .i64 a1_2] 39 (0, 0)) (bk BK181.out)) : gb181 ≠ gb192))
             have n10_ := Aside0.mk ((by rw [hg]; exact Nat.ne_of_gt (blk_lt (g := gb181) (o := .cells #[.int .i64 a1_0, .int .i64 a1_1, .int .i64 a1_2] 39 (0, 0)) (bk BK181.out)) : gb192 ≠ gb181))
             have n11_ := Aside0.mk ((by rw [hg]; exact Nat.ne_of_lt (blk_lt (g := gb182) (o := .cells #[.slice none 0 0] 29 (0, 0)) (bk BK182.out)) : gb182 ≠ gb192))
             have n12_ := Aside0.mk ((by rw [hg]; exact Nat.ne_of_gt (blk_lt (g := gb182) (o := .cells #[.slice none 0 0] 29 (0, 0)) (bk BK182.out)) : gb192 ≠ gb182))
             clear BK180
             clear BK181
             clear BK182
             clear HB
             have BK180 := n0_
             have BK181 := n1_
             have BK182 := n2_
             have HB := n3_
             have BK192 := n4_
             have GW192 := n5_
             have GE192 := n6_
             have NB180_192 := n7_
             have NB192_180 := n8_
             have NB181_192 := n9_
             have NB192_181 := n10_
             have NB182_192 := n11_
             have NB192_182 := n12_
             clear n0_ n1_ n2_ n3_ n4_ n5_ n6_ n7_ n8_ n9_ n10_ n11_ n12_
             clear hb hbox hg
             refine hK.out _ _ ⟨(blk_cell BK180.out 0).trans rfl, (blk_cell BK181.out 0).trans rfl, (blk_cell BK181.out 1).trans rfl, (blk_cell BK181.out 2).trans rfl⟩ (fun hHeld => ?_)
             clear hK K
             refine norm_ (a' := ?_) ?_ ?_
             rotate_left
             ·show Act.put _ (some 6) _ = _
              simp only [Act.put, List.setIfInBounds_toArray, List.set_cons_zero, List.set_cons_succ, i64_w, i32_w]
              rfl
             exact norm_ (by first | (simp only [putAll, Act.put, List.setIfInBounds_toArray, List.set_cons_zero, List.set_cons_succ]; done) | (simp only [putAll, Act.put, List.setIfInBounds_toArray, List.set_cons_zero, List.set_cons_succ]; rfl)) (hJ7 (gb192) _ ⟨hHeld, (bk BK180.out), (bk BK181.out), (bk BK182.out), (bk BK192.out), GW192.out, GE192.out, NB180_192.out, NB192_180.out, NB181_192.out, NB192_181.out, NB182_192.out, NB192_182.out, (hB HB.out)⟩)
           ·skip
            rintro gb192 w35 ⟨hS_, h0_, h1_, h2_, h3_, h4_, h5_, h6_, h7_, h8_, h9_, h10_, h11_, h12_⟩
            have n0_ : Aside0 (w35.heap[gb180]? = some (.cells #[.slice A0_0 l0_0.length c0_0] 29 (0, 0))) := ⟨h0_⟩
            have n1_ : Aside0 (w35.heap[gb181]? = some (.cells #[.int .i64 a1_0, .int .i64 a1_1, .int .i64 a1_2] 39 (0, 0))) := ⟨h1_⟩
            have n2_ : Aside0 (w35.heap[gb182]? = some (.cells #[.slice none 0 0] 29 (0, 0))) := ⟨h2_⟩
            have n3_ : Aside0 (w35.heap[gb192]? = some (.cells #[.slice none 0 0] 29 (0, 0))) := ⟨h3_⟩
            have n4_ : Aside0 (w.heap.size ≤ gb192) := ⟨h4_⟩
            have n5_ : Aside0 (w.heap.size ≤ gb192) := ⟨h5_⟩
            have n6_ : Aside0 (gb180 ≠ gb192) := ⟨h6_⟩
            have n7_ : Aside0 (gb192 ≠ gb180) := ⟨h7_⟩
            have n8_ : Aside0 (gb181 ≠ gb192) := ⟨h8_⟩
            have n9_ : Aside0 (gb192 ≠ gb181) := ⟨h9_⟩
            have n10_ : Aside0 (gb182 ≠ gb192) := ⟨h10_⟩
            have n11_ : Aside0 (gb192 ≠ gb182) := ⟨h11_⟩
            have n12_ : Aside0 (Below w.heap.size w w35) := ⟨h12_⟩
            clear BK180
            clear BK181
            clear BK182
            clear HB
            clear h0_ h1_ h2_ h3_ h4_ h5_ h6_ h7_ h8_ h9_ h10_ h11_ h12_
            have BK180 := n0_
            have BK181 := n1_
            have BK182 := n2_
            have BK192 := n3_
            have GW192 := n4_
            have GE192 := n5_
            have NB180_192 := n6_
            have NB192_180 := n7_
            have NB181_192 := n8_
            have NB192_181 := n9_
            have NB182_192 := n10_
            have NB192_182 := n11_
            have HB := n12_
            clear n0_ n1_ n2_ n3_ n4_ n5_ n6_ n7_ n8_ n9_ n10_ n11_ n12_
            have hHeld : w35.cell? ⟨gb180, 0, none⟩ = some (.slice A0_0 l0_0.length c0_0) ∧ w35.cell? ⟨gb181, 0, none⟩ = some (.int .i64 a1_0) ∧ w35.cell? ⟨gb181, 1, none⟩ = some (.int .i64 a1_1) ∧ w35.cell? ⟨gb181, 2, none⟩ = some (.int .i64 a1_2) := hS_
            refine norm_ (a' := ?_) ?_ ?_
            rotate_left
            ·simp only [putAll, Act.put, List.setIfInBounds_toArray, List.set_cons_zero, List.set_cons_succ]
             rfl
            refine two_ (i := 2) (j := 4) (Ni := some 9) (Nj := some 11) #[true, true, true, true, false, false, false, true, false] #[true, true, false, true, true, false, false, true, false] rfl rfl rfl rfl (two_of HT_.out (by kernel_rfl)) (by decide) (by decide) (fun K hK => ?_) (fun K hK => ?_)
            ·skip
             refine goes_ Try.func65 (by kernel_rfl) rfl #[.slice A0_0 l0_0.length c0_0] (by rfl) rfl rfl (by (try simp only [List.map_toArray, List.map_cons, List.map_nil]); first | done | rfl | (simp only [List.length_drop, List.length_take]; rfl)) ?_
             with_reducible refine (slices_Clone_impl_Clue_impl_Clue.calls _ _ l0_0 t183 _ ?side1 ?side2 A3.out).mono ?_
             (case side1 => repeat (first | exact (Kd.C_below HR0_0.out HB.out) | (with_reducible refine Kd.C_alloc ?_ _) | (with_reducible refine Kd.C_drewN ?_ _) | (with_reducible refine Kd.C_drew ?_)))
             (case side2 => exact HC0_0.out)
             rintro e w36 ⟨v184, rfl, ho0, hb⟩
             refine ⟨_, rfl, ?_⟩
             have n0_ := Aside0.mk (Kd.R_lower (Kd.R_newB ho0 (g := gb181) (o := .cells #[.int .i64 a1_0, .int .i64 a1_1, .int .i64 a1_2] 39 (0, 0)) (bk BK181.out)) (below_size (hB HB.out)))
             have n1_ := Aside0.mk (blk_below (g := gb180) (o := .cells #[.slice A0_0 l0_0.length c0_0] 29 (0, 0)) (bk BK180.out) hb)
             have n2_ := Aside0.mk (blk_below (g := gb181) (o := .cells #[.int .i64 a1_0, .int .i64 a1_1, .int .i64 a1_2] 39 (0, 0)) (bk BK181.out) hb)
             have n3_ := Aside0.mk (blk_below (g := gb182) (o := .cells #[.slice none 0 0] 29 (0, 0)) (bk BK182.out) hb)
             have n4_ := Aside0.mk (blk_below (g := gb192) (o := .cells #[.slice none 0 0] 29 (0, 0)) (bk BK192.out) hb)
             have n5_ := Aside0.mk (below_step (hB HB.out) hb)
             clear BK180
             clear BK181
             clear BK182
             clear BK192
             clear HB
             have HO185 := n0_
             have BK180 := n1_
             have BK181 := n2_
             have BK182 := n3_
             have BK192 := n4_
             have HB := n5_
             clear n0_ n1_ n2_ n3_ n4_ n5_
             (try clear hb)
             (try clear hb2)
             (try clear hk)
             (try clear hi)
             (try clear ho0)
             refine hK.out _ _ ⟨(blk_cell BK180.out 0).trans rfl, (blk_cell BK181.out 0).trans rfl, (blk_cell BK181.out 1).trans rfl, (blk_cell BK181.out 2).trans rfl⟩ (fun hHeld => ?_)
             clear hK K
             refine norm_ (a' := ?_) ?_ ?_
             rotate_left
             ·show Act.put _ (some 9) _ = _
              simp only [Act.put, List.setIfInBounds_toArray, List.set_cons_zero, List.set_cons_succ, i64_w, i32_w]
              rfl
             exact norm_ (by first | (simp only [putAll, Act.put, List.setIfInBounds_toArray, List.set_cons_zero, List.set_cons_succ]; done) | (simp only [putAll, Act.put, List.setIfInBounds_toArray, List.set_cons_zero, List.set_cons_succ]; rfl)) (hJ2_7 (_, gb192) _ ⟨hHeld, (rk (Kd.R_mono HO185.out (fun _ hk => hk.2))), (bk BK180.out), (bk BK181.out), (bk BK182.out), (bk BK192.out), GW192.out, GE192.out, NB180_192.out, NB192_180.out, NB181_192.out, NB192_181.out, NB182_192.out, NB192_182.out, (hB HB.out)⟩)
            ·skip
             refine Kd.R_lit_step k39 _ 39 ?hg (N := 11) ?hd (xs := ([(⟨a1_0, a1_1, a1_2⟩ : S39)] : List (S39))) (inner := [.int .i64 a1_0, .int .i64 a1_1, .int .i64 a1_2]) (ok := fun _ => True) (okp := fun _ => True) ?hr ?hp (fun _ hk => hk) trivial (Below.refl _ _) (Nat.le_refl _) (by simp) ?_; (case hd => rfl); (case hg => rfl); (case hr => first | (go_simp; done) | (go_simp; rfl)); (case hp => exact (Reps.c3 (show Kd.M k39 _ _ _ (⟨a1_0, a1_1, a1_2⟩ : S39) [.int .i64 a1_0, .int .i64 a1_1, .int .i64 a1_2] from (k39_mkM _ _ _ (⟨a1_0, a1_1, a1_2⟩ : S39) )) (Reps.none _ _)))
             intro v187 w36 ho37 hb hg_ hnew_
             clear hg_ hnew_
             (first | rw [← Ny186.out] at ho37 | (simp only [Int.reduceToNat] at ho37; rw [← Ny186.out] at ho37))
             have n0_ := Aside0.mk (Kd.R_lower (Kd.R_newB ho37 (g := gb181) (o := .cells #[.int .i64 a1_0, .int .i64 a1_1, .int .i64 a1_2] 39 (0, 0)) (bk BK181.out)) (below_size (hB HB.out)))
             have n1_ := Aside0.mk (blk_below (g := gb180) (o := .cells #[.slice A0_0 l0_0.length c0_0] 29 (0, 0)) (bk BK180.out) hb)
             have n2_ := Aside0.mk (blk_below (g := gb181) (o := .cells #[.int .i64 a1_0, .int .i64 a1_1, .int .i64 a1_2] 39 (0, 0)) (bk BK181.out) hb)
             have n3_ := Aside0.mk (blk_below (g := gb182) (o := .cells #[.slice none 0 0] 29 (0, 0)) (bk BK182.out) hb)
             have n4_ := Aside0.mk (blk_below (g := gb192) (o := .cells #[.slice none 0 0] 29 (0, 0)) (bk BK192.out) hb)
             have n5_ := Aside0.mk (below_step (hB HB.out) hb)
             clear BK180
             clear BK181
             clear BK182
             clear BK192
             clear HB
             have HO188 := n0_
             have BK180 := n1_
             have BK181 := n2_
             have BK182 := n3_
             have BK192 := n4_
             have HB := n5_
             clear n0_ n1_ n2_ n3_ n4_ n5_
             clear hb ho37
             refine hK.out _ _ ⟨(blk_cell BK180.out 0).trans rfl, (blk_cell BK181.out 0).trans rfl, (blk_cell BK181.out 1).trans rfl, (blk_cell BK181.out 2).trans rfl⟩ (fun hHeld => ?_)
             clear hK K
             refine norm_ (a' := ?_) ?_ ?_
             rotate_left
             ·show Act.put _ (some 11) _ = _
              simp only [Act.put, List.setIfInBounds_toArray, List.set_cons_zero, List.set_cons_succ, i64_w, i32_w]
              rfl
             exact norm_ (by first | (simp only [putAll, Act.put, List.setIfInBounds_toArray, List.set_cons_zero, List.set_cons_succ]; done) | (simp only [putAll, Act.put, List.setIfInBounds_toArray, List.set_cons_zero, List.set_cons_succ]; rfl)) (hJ4_7 (_, gb192) _ ⟨hHeld, (rk (Kd.R_mono HO188.out (fun _ hk => hk.2))), (bk BK180.out), (bk BK181.out), (bk BK182.out), (bk BK192.out), GW192.out, GE192.out, NB180_192.out, NB192_180.out, NB181_192.out, NB192_181.out, NB182_192.out, NB192_182.out, (hB HB.out)⟩)
          ·skip
           rintro v187 w36 ⟨hS_, h0_, h1_, h2_, h3_, h4_⟩
           have n0_ : Aside0 (Kd.R k39 39 w36 w.heap.size (fun k_ => k_ ≠ gb181) v187 y186) := ⟨h0_⟩
           have n1_ : Aside0 (w36.heap[gb180]? = some (.cells #[.slice A0_0 l0_0.length c0_0] 29 (0, 0))) := ⟨h1_⟩
           have n2_ : Aside0 (w36.heap[gb181]? = some (.cells #[.int .i64 a1_0, .int .i64 a1_1, .int .i64 a1_2] 39 (0, 0))) := ⟨h2_⟩
           have n3_ : Aside0 (w36.heap[gb182]? = some (.cells #[.slice none 0 0] 29 (0, 0))) := ⟨h3_⟩
           have n4_ : Aside0 (Below w.heap.size w w36) := ⟨h4_⟩
           clear BK180
           clear BK181
           clear BK182
           clear HB
           clear h0_ h1_ h2_ h3_ h4_
           have HO188 := n0_
           have BK180 := n1_
           have BK181 := n2_
           have BK182 := n3_
           have HB := n4_
           clear n0_ n1_ n2_ n3_ n4_
           have hHeld : w36.cell? ⟨gb180, 0, none⟩ = some (.slice A0_0 l0_0.length c0_0) ∧ w36.cell? ⟨gb181, 0, none⟩ = some (.int .i64 a1_0) ∧ w36.cell? ⟨gb181, 1, none⟩ = some (.int .i64 a1_1) ∧ w36.cell? ⟨gb181, 2, none⟩ = some (.int .i64 a1_2) := hS_
           refine norm_ (a' := ?_) ?_ ?_
           rotate_left
           ·simp only [putAll, Act.put, List.setIfInBounds_toArray, List.set_cons_zero, List.set_cons_succ]
            rfl
           refine two_ (i := 2) (j := 7) (Ni := some 9) (Nj := some 6) #[true, true, true, true, true, false, false, false, false] #[true, true, false, true, true, false, false, true, false] rfl rfl rfl rfl (two_of HT_.out (by kernel_rfl)) (by decide) (by decide) (fun K hK => ?_) (fun K hK => ?_)
           ·skip
            refine goes_ Try.func65 (by kernel_rfl) rfl #[.slice A0_0 l0_0.length c0_0] (by rfl) rfl rfl (by (try simp only [List.map_toArray, List.map_cons, List.map_nil]); first | done | rfl | (simp only [List.length_drop, List.length_take]; rfl)) ?_
            with_reducible refine (slices_Clone_impl_Clue_impl_Clue.calls _ _ l0_0 t183 _ ?side1 ?side2 A3.out).mono ?_
            (case side1 => repeat (first | exact (Kd.C_below HR0_0.out HB.out) | (with_reducible refine Kd.C_alloc ?_ _) | (with_reducible refine Kd.C_drewN ?_ _) | (with_reducible refine Kd.C_drew ?_)))
            (case side2 => exact HC0_0.out)
            rintro e w37 ⟨v184, rfl, ho0, hb⟩
            refine ⟨_, rfl, ?_⟩
            have n0_ := Aside0.mk (Kd.R_elder' (rk HO188.out) (Kd.R_base ho0) hb)
            have n1_ := Aside0.mk (Kd.R_lower (Kd.R_newB (Kd.R_new' ho0 (Kd.R_lt (rk HO188.out))) (g := gb181) (o := .cells #[.int .i64 a1_0, .int .i64 a1_1, .int .i64 a1_2] 39 (0, 0)) (bk BK181.out)) (below_size (hB HB.out)))
            have n2_ := Aside0.mk (blk_below (g := gb180) (o := .cells #[.slice A0_0 l0_0.length c0_0] 29 (0, 0)) (bk BK180.out) hb)
            have n3_ := Aside0.mk (blk_below (g := gb181) (o := .cells #[.int .i64 a1_0, .int .i64 a1_1, .int .i64 a1_2] 39 (0, 0)) (bk BK181.out) hb)
            have n4_ := Aside0.mk (blk_below (g := gb182) (o := .cells #[.slice none 0 0] 29 (0, 0)) (bk BK182.out) hb)
            have n5_ := Aside0.mk (below_step (hB HB.out) hb)
            clear HO188
            clear BK180
            clear BK181
            clear BK182
            clear HB
            have HO188 := n0_
            have HO185 := n1_
            have BK180 := n2_
            have BK181 := n3_
            have BK182 := n4_
            have HB := n5_
            clear n0_ n1_ n2_ n3_ n4_ n5_
            (try clear hb)
            (try clear hb2)
            (try clear hk)
            (try clear hi)
            (try clear ho0)
            refine hK.out _ _ ⟨(blk_cell BK180.out 0).trans rfl, (blk_cell BK181.out 0).trans rfl, (blk_cell BK181.out 1).trans rfl, (blk_cell BK181.out 2).trans rfl⟩ (fun hHeld => ?_)
            clear hK K
            refine norm_ (a' := ?_) ?_ ?_
            rotate_left
            ·show Act.put _ (some 9) _ = _
             simp only [Act.put, List.setIfInBounds_toArray, List.set_cons_zero, List.set_cons_succ, i64_w, i32_w]
             rfl
            exact norm_ (by first | (simp only [putAll, Act.put, List.setIfInBounds_toArray, List.set_cons_zero, List.set_cons_succ]; done) | (simp only [putAll, Act.put, List.setIfInBounds_toArray, List.set_cons_zero, List.set_cons_succ]; rfl)) (hJ2_4 (_, _) _ ⟨hHeld, (rk (Kd.R_mono HO185.out (fun _ hk => ⟨hk.1.2, hk.2⟩))), (rk (Kd.R_mono HO188.out (fun _ hk => ⟨hk.2, hk.1⟩))), (bk BK180.out), (bk BK181.out), (bk BK182.out), (hB HB.out)⟩)
           ·skip
            refine box_step ?hg (N := 6) ?hd (cs := #[.slice none 0 0]) (t := 29) ?hr ?_; (case hd => rfl); (case hg => rfl); (case hr => first | (go_simp; done) | (go_simp; rfl))
            intro gb192 hg w37 hbox hb
            have n0_ := Aside0.mk (Kd.R_below (rk HO188.out) hb)
            have n1_ := Aside0.mk (blk_below (g := gb180) (o := .cells #[.slice A0_0 l0_0.length c0_0] 29 (0, 0)) (bk BK180.out) hb)
            have n2_ := Aside0.mk (blk_below (g := gb181) (o := .cells #[.int .i64 a1_0, .int .i64 a1_1, .int .i64 a1_2] 39 (0, 0)) (bk BK181.out) hb)
            have n3_ := Aside0.mk (blk_below (g := gb182) (o := .cells #[.slice none 0 0] 29 (0, 0)) (bk BK182.out) hb)
            have n4_ := Aside0.mk (below_step (hB HB.out) hb)
            have n5_ := Aside0.mk (hbox)
            have n6_ := Aside0.mk ((by rw [hg]; exact (below_size (hB HB.out)) : w.heap.size ≤ gb192))
            have n7_ := Aside0.mk ((by rw [hg]; exact (below_size (hB HB.out)) : w.heap.size ≤ gb192))
            have n8_ := Aside0.mk ((by rw [hg]; exact Nat.ne_of_lt (blk_lt (g := gb180) (o := .cells #[.slice A0_0 l0_0.length c0_0] 29 (0, 0)) (bk BK180.out)) : gb180 ≠ gb192))
            have n9_ := Aside0.mk ((by rw [hg]; exact Nat.ne_of_gt (blk_lt (g := gb180) (o := .cells #[.slice A0_0 l0_0.length c0_0] 29 (0, 0)) (bk BK180.out)) : gb192 ≠ gb180))
            have n10_ := Aside0.mk ((by rw [hg]; exact Nat.ne_of_lt (blk_lt (g := gb181) (o := .cells #[.int .i64 a1_0, .int .i64 a1_1, .int .i64 a1_2] 39 (0, 0)) (bk BK181.out)) : gb181 ≠ gb192))
            have n11_ := Aside0.mk ((by rw [hg]; exact Nat.ne_of_gt (blk_lt (g := gb181) (o := .cells #[.int .i64 a1_0, .int .i64 a1_1, .int .i64 a1_2] 39 (0, 0)) (bk BK181.out)) : gb192 ≠ gb181))
            have n12_ := Aside0.mk ((by rw [hg]; exact Nat.ne_of_lt (blk_lt (g := gb182) (o := .cells #[.slice none 0 0] 29 (0, 0)) (bk BK182.out)) : gb182 ≠ gb192))
            have n13_ := Aside0.mk ((by rw [hg]; exact Nat.ne_of_gt (blk_lt (g := gb182) (o := .cells #[.slice none 0 0] 29 (0, 0)) (bk BK182.out)) : gb192 ≠ gb182))
            clear HO188
            clear BK180
            clear BK181
            clear BK182
            clear HB
            have HO188 := n0_
            have BK180 := n1_
            have BK181 := n2_
            have BK182 := n3_
            have HB := n4_
            have BK192 := n5_
            have GW192 := n6_
            have GE192 := n7_
            have NB180_192 := n8_
            have NB192_180 := n9_
            have NB181_192 := n10_
            have NB192_181 := n11_
            have NB182_192 := n12_
            have NB192_182 := n13_
            clear n0_ n1_ n2_ n3_ n4_ n5_ n6_ n7_ n8_ n9_ n10_ n11_ n12_ n13_
            clear hb hbox hg
            refine hK.out _ _ ⟨(blk_cell BK180.out 0).trans rfl, (blk_cell BK181.out 0).trans rfl, (blk_cell BK181.out 1).trans rfl, (blk_cell BK181.out 2).trans rfl⟩ (fun hHeld => ?_)
            clear hK K
            refine norm_ (a' := ?_) ?_ ?_
            rotate_left
            ·show Act.put _ (some 6) _ = _
             simp only [Act.put, List.setIfInBounds_toArray, List.set_cons_zero, List.set_cons_succ, i64_w, i32_w]
             rfl
            exact norm_ (by first | (simp only [putAll, Act.put, List.setIfInBounds_toArray, List.set_cons_zero, List.set_cons_succ]; done) | (simp only [putAll, Act.put, List.setIfInBounds_toArray, List.set_cons_zero, List.set_cons_succ]; rfl)) (hJ4_7 (_, gb192) _ ⟨hHeld, (rk HO188.out), (bk BK180.out), (bk BK181.out), (bk BK182.out), (bk BK192.out), GW192.out, GE192.out, NB180_192.out, NB192_180.out, NB181_192.out, NB192_181.out, NB182_192.out, NB192_182.out, (hB HB.out)⟩)
         ·skip
          rintro v184 w35 ⟨hS_, h0_, h1_, h2_, h3_, h4_⟩
          have n0_ : Aside0 (Kd.R k39 39 w35 w.heap.size (fun k_ => k_ ≠ gb181) v184 t183) := ⟨h0_⟩
          have n1_ : Aside0 (w35.heap[gb180]? = some (.cells #[.slice A0_0 l0_0.length c0_0] 29 (0, 0))) := ⟨h1_⟩
          have n2_ : Aside0 (w35.heap[gb181]? = some (.cells #[.int .i64 a1_0, .int .i64 a1_1, .int .i64 a1_2] 39 (0, 0))) := ⟨h2_⟩
          have n3_ : Aside0 (w35.heap[gb182]? = some (.cells #[.slice none 0 0] 29 (0, 0))) := ⟨h3_⟩
          have n4_ : Aside0 (Below w.heap.size w w35) := ⟨h4_⟩
          clear BK180
          clear BK181
          clear BK182
          clear HB
          clear h0_ h1_ h2_ h3_ h4_
          have HO185 := n0_
          have BK180 := n1_
          have BK181 := n2_
          have BK182 := n3_
          have HB := n4_
          clear n0_ n1_ n2_ n3_ n4_
          have hHeld : w35.cell? ⟨gb180, 0, none⟩ = some (.slice A0_0 l0_0.length c0_0) ∧ w35.cell? ⟨gb181, 0, none⟩ = some (.int .i64 a1_0) ∧ w35.cell? ⟨gb181, 1, none⟩ = some (.int .i64 a1_1) ∧ w35.cell? ⟨gb181, 2, none⟩ = some (.int .i64 a1_2) := hS_
          refine norm_ (a' := ?_) ?_ ?_
          rotate_left
          ·simp only [putAll, Act.put, List.setIfInBounds_toArray, List.set_cons_zero, List.set_cons_succ]
           rfl
          refine two_ (i := 4) (j := 7) (Ni := some 11) (Nj := some 6) #[true, true, true, true, true, false, false, false, false] #[true, true, true, true, false, false, false, true, false] rfl rfl rfl rfl (two_of HT_.out (by kernel_rfl)) (by decide) (by decide) (fun K hK => ?_) (fun K hK => ?_)
          ·skip
           refine Kd.R_lit_step k39 _ 39 ?hg (N := 11) ?hd (xs := ([(⟨a1_0, a1_1, a1_2⟩ : S39)] : List (S39))) (inner := [.int .i64 a1_0, .int .i64 a1_1, .int .i64 a1_2]) (ok := fun _ => True) (okp := fun _ => True) ?hr ?hp (fun _ hk => hk) trivial (Below.refl _ _) (Nat.le_refl _) (by simp) ?_; (case hd => rfl); (case hg => rfl); (case hr => first | (go_simp; done) | (go_simp; rfl)); (case hp => exact (Reps.c3 (show Kd.M k39 _ _ _ (⟨a1_0, a1_1, a1_2⟩ : S39) [.int .i64 a1_0, .int .i64 a1_1, .int .i64 a1_2] from (k39_mkM _ _ _ (⟨a1_0, a1_1, a1_2⟩ : S39) )) (Reps.none _ _)))
           intro v187 w36 ho37 hb hg_ hnew_
           clear hg_ hnew_
           (first | rw [← Ny186.out] at ho37 | (simp only [Int.reduceToNat] at ho37; rw [← Ny186.out] at ho37))
           have n0_ := Aside0.mk (Kd.R_elder' (rk HO185.out) (Kd.R_base ho37) hb)
           have n1_ := Aside0.mk (Kd.R_lower (Kd.R_newB (Kd.R_new' ho37 (Kd.R_lt (rk HO185.out))) (g := gb181) (o := .cells #[.int .i64 a1_0, .int .i64 a1_1, .int .i64 a1_2] 39 (0, 0)) (bk BK181.out)) (below_size (hB HB.out)))
           have n2_ := Aside0.mk (blk_below (g := gb180) (o := .cells #[.slice A0_0 l0_0.length c0_0] 29 (0, 0)) (bk BK180.out) hb)
           have n3_ := Aside0.mk (blk_below (g := gb181) (o := .cells #[.int .i64 a1_0, .int .i64 a1_1, .int .i64 a1_2] 39 (0, 0)) (bk BK181.out) hb)
           have n4_ := Aside0.mk (blk_below (g := gb182) (o := .cells #[.slice none 0 0] 29 (0, 0)) (bk BK182.out) hb)
           have n5_ := Aside0.mk (below_step (hB HB.out) hb)
           clear HO185
           clear BK180
           clear BK181
           clear BK182
           clear HB
           have HO185 := n0_
           have HO188 := n1_
           have BK180 := n2_
           have BK181 := n3_
           have BK182 := n4_
           have HB := n5_
           clear n0_ n1_ n2_ n3_ n4_ n5_
           clear hb ho37
           refine hK.out _ _ ⟨(blk_cell BK180.out 0).trans rfl, (blk_cell BK181.out 0).trans rfl, (blk_cell BK181.out 1).trans rfl, (blk_cell BK181.out 2).trans rfl⟩ (fun hHeld => ?_)
           clear hK K
           refine norm_ (a' := ?_) ?_ ?_
           rotate_left
           ·show Act.put _ (some 11) _ = _
            simp only [Act.put, List.setIfInBounds_toArray, List.set_cons_zero, List.set_cons_succ, i64_w, i32_w]
            rfl
           exact norm_ (by first | (simp only [putAll, Act.put, List.setIfInBounds_toArray, List.set_cons_zero, List.set_cons_succ]; done) | (simp only [putAll, Act.put, List.setIfInBounds_toArray, List.set_cons_zero, List.set_cons_succ]; rfl)) (hJ2_4 (_, _) _ ⟨hHeld, (rk (Kd.R_mono HO185.out (fun _ hk => ⟨hk.2, hk.1⟩))), (rk (Kd.R_mono HO188.out (fun _ hk => ⟨hk.1.2, hk.2⟩))), (bk BK180.out), (bk BK181.out), (bk BK182.out), (hB HB.out)⟩)
          ·skip
           refine box_step ?hg (N := 6) ?hd (cs := #[.slice none 0 0]) (t := 29) ?hr ?_; (case hd => rfl); (case hg => rfl); (case hr => first | (go_simp; done) | (go_simp; rfl))
           intro gb192 hg w36 hbox hb
           have n0_ := Aside0.mk (Kd.R_below (rk HO185.out) hb)
           have n1_ := Aside0.mk (blk_below (g := gb180) (o := .cells #[.slice A0_0 l0_0.length c0_0] 29 (0, 0)) (bk BK180.out) hb)
           have n2_ := Aside0.mk (blk_below (g := gb181) (o := .cells #[.int .i64 a1_0, .int .i64 a1_1, .int .i64 a1_2] 39 (0, 0)) (bk BK181.out) hb)
           have n3_ := Aside0.mk (blk_below (g := gb182) (o := .cells #[.slice none 0 0] 29 (0, 0)) (bk BK182.out) hb)
           have n4_ := Aside0.mk (below_step (hB HB.out) hb)
           have n5_ := Aside0.mk (hbox)
           have n6_ := Aside0.mk ((by rw [hg]; exact (below_size (hB HB.out)) : w.heap.size ≤ gb192))
           have n7_ := Aside0.mk ((by rw [hg]; exact (below_size (hB HB.out)) : w.heap.size ≤ gb192))
           have n8_ := Aside0.mk ((by rw [hg]; exact Nat.ne_of_lt (blk_lt (g := gb180) (o := .cells #[.slice A0_0 l0_0.length c0_0] 29 (0, 0)) (bk BK180.out)) : gb180 ≠ gb192))
           have n9_ := Aside0.mk ((by rw [hg]; exact Nat.ne_of_gt (blk_lt (g := gb180) (o := .cells #[.slice A0_0 l0_0.length c0_0] 29 (0, 0)) (bk BK180.out)) : gb192 ≠ gb180))
           have n10_ := Aside0.mk ((by rw [hg]; exact Nat.ne_of_lt (blk_lt (g := gb181) (o := .cells #[.int .i64 a1_0, .int .i64 a1_1, .int .i64 a1_2] 39 (0, 0)) (bk BK181.out)) : gb181 ≠ gb192))
           have n11_ := Aside0.mk ((by rw [hg]; exact Nat.ne_of_gt (blk_lt (g := gb181) (o := .cells #[.int .i64 a1_0, .int .i64 a1_1, .int .i64 a1_2] 39 (0, 0)) (bk BK181.out)) : gb192 ≠ gb181))
           have n12_ := Aside0.mk ((by rw [hg]; exact Nat.ne_of_lt (blk_lt (g := gb182) (o := .cells #[.slice none 0 0] 29 (0, 0)) (bk BK182.out)) : gb182 ≠ gb192))
           have n13_ := Aside0.mk ((by rw [hg]; exact Nat.ne_of_gt (blk_lt (g := gb182) (o := .cells #[.slice none 0 0] 29 (0, 0)) (bk BK182.out)) : gb192 ≠ gb182))
           clear HO185
           clear BK180
           clear BK181
           clear BK182
           clear HB
           have HO185 := n0_
           have BK180 := n1_
           have BK181 := n2_
           have BK182 := n3_
           have HB := n4_
           have BK192 := n5_
           have GW192 := n6_
           have GE192 := n7_
           have NB180_192 := n8_
           have NB192_180 := n9_
           have NB181_192 := n10_
           have NB192_181 := n11_
           have NB182_192 := n12_
           have NB192_182 := n13_
           clear n0_ n1_ n2_ n3_ n4_ n5_ n6_ n7_ n8_ n9_ n10_ n11_ n12_ n13_
           clear hb hbox hg
           refine hK.out _ _ ⟨(blk_cell BK180.out 0).trans rfl, (blk_cell BK181.out 0).trans rfl, (blk_cell BK181.out 1).trans rfl, (blk_cell BK181.out 2).trans rfl⟩ (fun hHeld => ?_)
           clear hK K
           refine norm_ (a' := ?_) ?_ ?_
           rotate_left
           ·show Act.put _ (some 6) _ = _
            simp only [Act.put, List.setIfInBounds_toArray, List.set_cons_zero, List.set_cons_succ, i64_w, i32_w]
            rfl
           exact norm_ (by first | (simp only [putAll, Act.put, List.setIfInBounds_toArray, List.set_cons_zero, List.set_cons_succ]; done) | (simp only [putAll, Act.put, List.setIfInBounds_toArray, List.set_cons_zero, List.set_cons_succ]; rfl)) (hJ2_7 (_, gb192) _ ⟨hHeld, (rk HO185.out), (bk BK180.out), (bk BK181.out), (bk BK182.out), (bk BK192.out), GW192.out, GE192.out, NB180_192.out, NB192_180.out, NB181_192.out, NB192_181.out, NB182_192.out, NB192_182.out, (hB HB.out)⟩)
        ·skip
         rintro ⟨v187, gb192⟩ w37 ⟨hS_, h0_, h1_, h2_, h3_, h4_, h5_, h6_, h7_, h8_, h9_, h10_, h11_, h12_, h13_⟩
         have n0_ : Aside0 (Kd.R k39 39 w37 w.heap.size (fun k_ => k_ ≠ gb181) v187 y186) := ⟨h0_⟩
         have n1_ : Aside0 (w37.heap[gb180]? = some (.cells #[.slice A0_0 l0_0.length c0_0] 29 (0, 0))) := ⟨h1_⟩
         have n2_ : Aside0 (w37.heap[gb181]? = some (.cells #[.int .i64 a1_0, .int .i64 a1_1, .int .i64 a1_2] 39 (0, 0))) := ⟨h2_⟩
         have n3_ : Aside0 (w37.heap[gb182]? = some (.cells #[.slice none 0 0] 29 (0, 0))) := ⟨h3_⟩
         have n4_ : Aside0 (w37.heap[gb192]? = some (.cells #[.slice none 0 0] 29 (0, 0))) := ⟨h4_⟩
         have n5_ : Aside0 (w.heap.size ≤ gb192) := ⟨h5_⟩
         have n6_ : Aside0 (w.heap.size ≤ gb192) := ⟨h6_⟩
         have n7_ : Aside0 (gb180 ≠ gb192) := ⟨h7_⟩
         have n8_ : Aside0 (gb192 ≠ gb180) := ⟨h8_⟩
         have n9_ : Aside0 (gb181 ≠ gb192) := ⟨h9_⟩
         have n10_ : Aside0 (gb192 ≠ gb181) := ⟨h10_⟩
         have n11_ : Aside0 (gb182 ≠ gb192) := ⟨h11_⟩
         have n12_ : Aside0 (gb192 ≠ gb182) := ⟨h12_⟩
         have n13_ : Aside0 (Below w.heap.size w w37) := ⟨h13_⟩
         clear BK180
         clear BK181
         clear BK182
         clear HB
         clear h0_ h1_ h2_ h3_ h4_ h5_ h6_ h7_ h8_ h9_ h10_ h11_ h12_ h13_
         have HO188 := n0_
         have BK180 := n1_
         have BK181 := n2_
         have BK182 := n3_
         have BK192 := n4_
         have GW192 := n5_
         have GE192 := n6_
         have NB180_192 := n7_
         have NB192_180 := n8_
         have NB181_192 := n9_
         have NB192_181 := n10_
         have NB182_192 := n11_
         have NB192_182 := n12_
         have HB := n13_
         clear n0_ n1_ n2_ n3_ n4_ n5_ n6_ n7_ n8_ n9_ n10_ n11_ n12_ n13_
         have hHeld : w37.cell? ⟨gb180, 0, none⟩ = some (.slice A0_0 l0_0.length c0_0) ∧ w37.cell? ⟨gb181, 0, none⟩ = some (.int .i64 a1_0) ∧ w37.cell? ⟨gb181, 1, none⟩ = some (.int .i64 a1_1) ∧ w37.cell? ⟨gb181, 2, none⟩ = some (.int .i64 a1_2) := hS_
         refine norm_ (a' := ?_) ?_ ?_
         rotate_left
         ·simp only [putAll, Act.put, List.setIfInBounds_toArray, List.set_cons_zero, List.set_cons_succ]
          rfl
         refine one_ (i := 2) (N := some 9) #[true, true, true, true, true, false, false, true, false] rfl rfl (one_of HT_.out (by kernel_rfl)) (by decide) (fun K hK => ?_)
         refine goes_ Try.func65 (by kernel_rfl) rfl #[.slice A0_0 l0_0.length c0_0] (by rfl) rfl rfl (by (try simp only [List.map_toArray, List.map_cons, List.map_nil]); first | done | rfl | (simp only [List.length_drop, List.length_take]; rfl)) ?_
         with_reducible refine (slices_Clone_impl_Clue_impl_Clue.calls _ _ l0_0 t183 _ ?side1 ?side2 A3.out).mono ?_
         (case side1 => repeat (first | exact (Kd.C_below HR0_0.out HB.out) | (with_reducible refine Kd.C_alloc ?_ _) | (with_reducible refine Kd.C_drewN ?_ _) | (with_reducible refine Kd.C_drew ?_)))
         (case side2 => exact HC0_0.out)
         rintro e w38 ⟨v184, rfl, ho0, hb⟩
         refine ⟨_, rfl, ?_⟩
         have n0_ := Aside0.mk (Kd.R_elder' (rk HO188.out) (Kd.R_base ho0) hb)
         have n1_ := Aside0.mk (Kd.R_lower (Kd.R_newB (Kd.R_new' ho0 (Kd.R_lt (rk HO188.out))) (g := gb181) (o := .cells #[.int .i64 a1_0, .int .i64 a1_1, .int .i64 a1_2] 39 (0, 0)) (bk BK181.out)) (below_size (hB HB.out)))
         have n2_ := Aside0.mk (blk_below (g := gb180) (o := .cells #[.slice A0_0 l0_0.length c0_0] 29 (0, 0)) (bk BK180.out) hb)
         have n3_ := Aside0.mk (blk_below (g := gb181) (o := .cells #[.int .i64 a1_0, .int .i64 a1_1, .int .i64 a1_2] 39 (0, 0)) (bk BK181.out) hb)
         have n4_ := Aside0.mk (blk_below (g := gb182) (o := .cells #[.slice none 0 0] 29 (0, 0)) (bk BK182.out) hb)
         have n5_ := Aside0.mk (blk_below (g := gb192) (o := .cells #[.slice none 0 0] 29 (0, 0)) (bk BK192.out) hb)
         have n6_ := Aside0.mk (below_step (hB HB.out) hb)
         clear HO188
         clear BK180
         clear BK181
         clear BK182
         clear BK192
         clear HB
         have HO188 := n0_
         have HO185 := n1_
         have BK180 := n2_
         have BK181 := n3_
         have BK182 := n4_
         have BK192 := n5_
         have HB := n6_
         clear n0_ n1_ n2_ n3_ n4_ n5_ n6_
         (try clear hb)
         (try clear hb2)
         (try clear hk)
         (try clear hi)
         (try clear ho0)
         refine hK.out _ _ ⟨(blk_cell BK180.out 0).trans rfl, (blk_cell BK181.out 0).trans rfl, (blk_cell BK181.out 1).trans rfl, (blk_cell BK181.out 2).trans rfl⟩ (fun hHeld => ?_)
         clear hK K
         refine norm_ (a' := ?_) ?_ ?_
         rotate_left
         ·show Act.put _ (some 9) _ = _
          simp only [Act.put, List.setIfInBounds_toArray, List.set_cons_zero, List.set_cons_succ, i64_w, i32_w]
          rfl
         exact norm_ (by first | (simp only [putAll, Act.put, List.setIfInBounds_toArray, List.set_cons_zero, List.set_cons_succ]; done) | (simp only [putAll, Act.put, List.setIfInBounds_toArray, List.set_cons_zero, List.set_cons_succ]; rfl)) (hJ2_4_7 (_, _, gb192) _ ⟨hHeld, (rk (Kd.R_mono HO185.out (fun _ hk => ⟨hk.1.2, hk.2⟩))), (rk (Kd.R_mono HO188.out (fun _ hk => ⟨hk.2, hk.1⟩))), (bk BK180.out), (bk BK181.out), (bk BK182.out), (bk BK192.out), GW192.out, GE192.out, NB180_192.out, NB192_180.out, NB181_192.out, NB192_181.out, NB182_192.out, NB192_182.out, (hB HB.out)⟩)
       ·skip
        rintro ⟨v184, gb192⟩ w36 ⟨hS_, h0_, h1_, h2_, h3_, h4_, h5_, h6_, h7_, h8_, h9_, h10_, h11_, h12_, h13_⟩
        have n0_ : Aside0 (Kd.R k39 39 w36 w.heap.size (fun k_ => k_ ≠ gb181) v184 t183) := ⟨h0_⟩
        have n1_ : Aside0 (w36.heap[gb180]? = some (.cells #[.slice A0_0 l0_0.length c0_0] 29 (0, 0))) := ⟨h1_⟩
        have n2_ : Aside0 (w36.heap[gb181]? = some (.cells #[.int .i64 a1_0, .int .i64 a1_1, .int .i64 a1_2] 39 (0, 0))) := ⟨h2_⟩
        have n3_ : Aside0 (w36.heap[gb182]? = some (.cells #[.slice none 0 0] 29 (0, 0))) := ⟨h3_⟩
        have n4_ : Aside0 (w36.heap[gb192]? = some (.cells #[.slice none 0 0] 29 (0, 0))) := ⟨h4_⟩
        have n5_ : Aside0 (w.heap.size ≤ gb192) := ⟨h5_⟩
        have n6_ : Aside0 (w.heap.size ≤ gb192) := ⟨h6_⟩
        have n7_ : Aside0 (gb180 ≠ gb192) := ⟨h7_⟩
        have n8_ : Aside0 (gb192 ≠ gb180) := ⟨h8_⟩
        have n9_ : Aside0 (gb181 ≠ gb192) := ⟨h9_⟩
        have n10_ : Aside0 (gb192 ≠ gb181) := ⟨h10_⟩
        have n11_ : Aside0 (gb182 ≠ gb192) := ⟨h11_⟩
        have n12_ : Aside0 (gb192 ≠ gb182) := ⟨h12_⟩
        have n13_ : Aside0 (Below w.heap.size w w36) := ⟨h13_⟩
        clear BK180
        clear BK181
        clear BK182
        clear HB
        clear h0_ h1_ h2_ h3_ h4_ h5_ h6_ h7_ h8_ h9_ h10_ h11_ h12_ h13_
        have HO185 := n0_
        have BK180 := n1_
        have BK181 := n2_
        have BK182 := n3_
        have BK192 := n4_
        have GW192 := n5_
        have GE192 := n6_
        have NB180_192 := n7_
        have NB192_180 := n8_
        have NB181_192 := n9_
        have NB192_181 := n10_
        have NB182_192 := n11_
        have NB192_182 := n12_
        have HB := n13_
        clear n0_ n1_ n2_ n3_ n4_ n5_ n6_ n7_ n8_ n9_ n10_ n11_ n12_ n13_
        have hHeld : w36.cell? ⟨gb180, 0, none⟩ = some (.slice A0_0 l0_0.length c0_0) ∧ w36.cell? ⟨gb181, 0, none⟩ = some (.int .i64 a1_0) ∧ w36.cell? ⟨gb181, 1, none⟩ = some (.int .i64 a1_1) ∧ w36.cell? ⟨gb181, 2, none⟩ = some (.int .i64 a1_2) := hS_
        refine norm_ (a' := ?_) ?_ ?_
        rotate_left
        ·simp only [putAll, Act.put, List.setIfInBounds_toArray, List.set_cons_zero, List.set_cons_succ]
         rfl
        refine one_ (i := 4) (N := some 11) #[true, true, true, true, true, false, false, true, false] rfl rfl (one_of HT_.out (by kernel_rfl)) (by decide) (fun K hK => ?_)
        refine Kd.R_lit_step k39 _ 39 ?hg (N := 11) ?hd (xs := ([(⟨a1_0, a1_1, a1_2⟩ : S39)] : List (S39))) (inner := [.int .i64 a1_0, .int .i64 a1_1, .int .i64 a1_2]) (ok := fun _ => True) (okp := fun _ => True) ?hr ?hp (fun _ hk => hk) trivial (Below.refl _ _) (Nat.le_refl _) (by simp) ?_; (case hd => rfl); (case hg => rfl); (case hr => first | (go_simp; done) | (go_simp; rfl)); (case hp => exact (Reps.c3 (show Kd.M k39 _ _ _ (⟨a1_0, a1_1, a1_2⟩ : S39) [.int .i64 a1_0, .int .i64 a1_1, .int .i64 a1_2] from (k39_mkM _ _ _ (⟨a1_0, a1_1, a1_2⟩ : S39) )) (Reps.none _ _)))
        intro v187 w37 ho38 hb hg_ hnew_
        clear hg_ hnew_
        (first | rw [← Ny186.out] at ho38 | (simp only [Int.reduceToNat] at ho38; rw [← Ny186.out] at ho38))
        have n0_ := Aside0.mk (Kd.R_elder' (rk HO185.out) (Kd.R_base ho38) hb)
        have n1_ := Aside0.mk (Kd.R_lower (Kd.R_newB (Kd.R_new' ho38 (Kd.R_lt (rk HO185.out))) (g := gb181) (o := .cells #[.int .i64 a1_0, .int .i64 a1_1, .int .i64 a1_2] 39 (0, 0)) (bk BK181.out)) (below_size (hB HB.out)))
        have n2_ := Aside0.mk (blk_below (g := gb180) (o := .cells #[.slice A0_0 l0_0.length c0_0] 29 (0, 0)) (bk BK180.out) hb)
        have n3_ := Aside0.mk (blk_below (g := gb181) (o := .cells #[.int .i64 a1_0, .int .i64 a1_1, .int .i64 a1_2] 39 (0, 0)) (bk BK181.out) hb)
        have n4_ := Aside0.mk (blk_below (g := gb182) (o := .cells #[.slice none 0 0] 29 (0, 0)) (bk BK182.out) hb)
        have n5_ := Aside0.mk (blk_below (g := gb192) (o := .cells #[.slice none 0 0] 29 (0, 0)) (bk BK192.out) hb)
        have n6_ := Aside0.mk (below_step (hB HB.out) hb)
        clear HO185
        clear BK180
        clear BK181
        clear BK182
        clear BK192
        clear HB
        have HO185 := n0_
        have HO188 := n1_
        have BK180 := n2_
        have BK181 := n3_
        have BK182 := n4_
        have BK192 := n5_
        have HB := n6_
        clear n0_ n1_ n2_ n3_ n4_ n5_ n6_
        clear hb ho38
        refine hK.out _ _ ⟨(blk_cell BK180.out 0).trans rfl, (blk_cell BK181.out 0).trans rfl, (blk_cell BK181.out 1).trans rfl, (blk_cell BK181.out 2).trans rfl⟩ (fun hHeld => ?_)
        clear hK K
        refine norm_ (a' := ?_) ?_ ?_
        rotate_left
        ·show Act.put _ (some 11) _ = _
         simp only [Act.put, List.setIfInBounds_toArray, List.set_cons_zero, List.set_cons_succ, i64_w, i32_w]
         rfl
        exact norm_ (by first | (simp only [putAll, Act.put, List.setIfInBounds_toArray, List.set_cons_zero, List.set_cons_succ]; done) | (simp only [putAll, Act.put, List.setIfInBounds_toArray, List.set_cons_zero, List.set_cons_succ]; rfl)) (hJ2_4_7 (_, _, gb192) _ ⟨hHeld, (rk (Kd.R_mono HO185.out (fun _ hk => ⟨hk.2, hk.1⟩))), (rk (Kd.R_mono HO188.out (fun _ hk => ⟨hk.1.2, hk.2⟩))), (bk BK180.out), (bk BK181.out), (bk BK182.out), (bk BK192.out), GW192.out, GE192.out, NB180_192.out, NB192_180.out, NB181_192.out, NB192_181.out, NB182_192.out, NB192_182.out, (hB HB.out)⟩)
      ·skip
       rintro ⟨v184, v187⟩ w37 ⟨hS_, h0_, h1_, h2_, h3_, h4_, h5_⟩
       have n0_ : Aside0 (Kd.R k39 39 w37 w.heap.size (fun k_ => some k_ ≠ (v187 : Value).ownBlock ∧ k_ ≠ gb181) v184 t183) := ⟨h0_⟩
       have n1_ : Aside0 (Kd.R k39 39 w37 w.heap.size (fun k_ => some k_ ≠ (v184 : Value).ownBlock ∧ k_ ≠ gb181) v187 y186) := ⟨h1_⟩
       have n2_ : Aside0 (w37.heap[gb180]? = some (.cells #[.slice A0_0 l0_0.length c0_0] 29 (0, 0))) := ⟨h2_⟩
       have n3_ : Aside0 (w37.heap[gb181]? = some (.cells #[.int .i64 a1_0, .int .i64 a1_1, .int .i64 a1_2] 39 (0, 0))) := ⟨h3_⟩
       have n4_ : Aside0 (w37.heap[gb182]? = some (.cells #[.slice none 0 0] 29 (0, 0))) := ⟨h4_⟩
       have n5_ : Aside0 (Below w.heap.size w w37) := ⟨h5_⟩
       clear BK180
       clear BK181
       clear BK182
       clear HB
       clear h0_ h1_ h2_ h3_ h4_ h5_
       have HO185 := n0_
       have HO188 := n1_
       have BK180 := n2_
       have BK181 := n3_
       have BK182 := n4_
       have HB := n5_
       clear n0_ n1_ n2_ n3_ n4_ n5_
       have hHeld : w37.cell? ⟨gb180, 0, none⟩ = some (.slice A0_0 l0_0.length c0_0) ∧ w37.cell? ⟨gb181, 0, none⟩ = some (.int .i64 a1_0) ∧ w37.cell? ⟨gb181, 1, none⟩ = some (.int .i64 a1_1) ∧ w37.cell? ⟨gb181, 2, none⟩ = some (.int .i64 a1_2) := hS_
       obtain ⟨Ao39, co39, eo39⟩ := Kd.R_slice HO188.out
       (first | subst eo39 | (injection eo39 with f1_ f2_ f3_; have f4_ := f1_.symm; have f5_ := f3_.symm; clear f1_ f2_ f3_; subst f4_; subst f5_))
       refine norm_ (a' := ?_) ?_ ?_
       rotate_left
       ·simp only [putAll, Act.put, List.setIfInBounds_toArray, List.set_cons_zero, List.set_cons_succ]
        rfl
       refine two_ (i := 5) (j := 7) (Ni := some 12) (Nj := some 6) #[true, true, true, true, true, true, false, false, false] #[true, true, true, true, true, false, false, true, false] rfl rfl rfl rfl (two_of HT_.out (by kernel_rfl)) (by decide) (by decide) (fun K hK => ?_) (fun K hK => ?_)
       ·skip
        refine Kd.R_append_rows_step k39 (w0 := w) w.heap.size (by rfl) (.tmp 9) (.tmp 11) 27 39 (.agg #[(.int .i64 0), (.int .i64 0), (.int .i64 0)]) 24 rfl Try.underlying27 info39 rfl (by decide) (by omega) v184 t183 y186 _ _ _ (fun k_ => some k_ ≠ (.slice Ao39 y186.length co39 : Value).ownBlock ∧ k_ ≠ gb181) (fun _ => False) rfl rfl ?aO ?aR (fun _ _ h => h) (fun _ h => h.elim) ?aF ?aB ?aS ?aL ?_
        (case aR => repeat (first | exact (Kd.R_reads' HO188.out).2.2 | (with_reducible refine Kd.C_alloc ?_ _) | (with_reducible refine Kd.C_drewN ?_ _) | (with_reducible refine Kd.C_drew ?_)))
        (case aB => exact (hB HB.out))
        (case aF => exact (fun k_ hk => ⟨Kd.fresh' (Kd.R_lt (rk HO188.out)) k_ hk, Kd.freshB (g := gb181) (o := .cells #[.int .i64 a1_0, .int .i64 a1_1, .int .i64 a1_2] 39 (0, 0)) (bk BK181.out) k_ hk⟩))
        (case aO => exact (rk HO185.out))
        (case aS => exact (below_size (hB HB.out)))
        (case aL => have := LMc4.out; omega)
        intro v190 w38 ho hb hg hat
        rw [← Ny189.out] at ho
        have n0_ := Aside0.mk (blk_grown (g := gb180) (o := .cells #[.slice A0_0 l0_0.length c0_0] 29 (0, 0)) (bk BK180.out) hg (Kd.R_ne HO185.out BK180.out (by decide)))
        have n1_ := Aside0.mk (blk_grown (g := gb181) (o := .cells #[.int .i64 a1_0, .int .i64 a1_1, .int .i64 a1_2] 39 (0, 0)) (bk BK181.out) hg (Kd.R_away HO185.out (fun _ hk => hk.2)))
        have n2_ := Aside0.mk (blk_grown (g := gb182) (o := .cells #[.slice none 0 0] 29 (0, 0)) (bk BK182.out) hg (Kd.R_ne HO185.out BK182.out (by decide)))
        have n3_ := Aside0.mk (Kd.R_after (ok := (fun k_ => k_ ≠ gb181)) (rk (Kd.R_mono HO188.out (fun _ hk => ⟨hk.2, hk.1⟩))) hg hat)
        have n4_ := Aside0.mk (hb)
        have n5_ := Aside0.mk (ho)
        clear BK180
        clear BK181
        clear BK182
        clear HO188
        clear HB
        clear HO185
        have BK180 := n0_
        have BK181 := n1_
        have BK182 := n2_
        have HO188 := n3_
        have HB := n4_
        have HO191 := n5_
        clear n0_ n1_ n2_ n3_ n4_ n5_
        clear ho hb hg hat
        obtain ⟨Ao40, co40, eo40⟩ := Kd.R_slice HO191.out
        (first | subst eo40 | (injection eo40 with f1_ f2_ f3_; have f4_ := f1_.symm; have f5_ := f3_.symm; clear f1_ f2_ f3_; subst f4_; subst f5_))
        refine hK.out _ _ ⟨(blk_cell BK180.out 0).trans rfl, (blk_cell BK181.out 0).trans rfl, (blk_cell BK181.out 1).trans rfl, (blk_cell BK181.out 2).trans rfl⟩ (fun hHeld => ?_)
        clear hK K
        refine norm_ (a' := ?_) ?_ ?_
        rotate_left
        ·show Act.put _ (some 12) _ = _
         simp only [Act.put, List.setIfInBounds_toArray, List.set_cons_zero, List.set_cons_succ, i64_w, i32_w]
         rfl
        refine pure_ (i := 6) (N := some 13) (v := ?_) (a' := ?_) #[true, true, true, true, true, true, true, false, false] rfl rfl (any_of HT_.out (by kernel_rfl)) (fun _ _ _ h => h) (Or.inl ⟨by rfl, ?_⟩) ?_ ?_
        rotate_left
        ·intro w'
         go_simp
         with_reducible rfl
        rotate_left
        ·simp only [Act.put, List.setIfInBounds_toArray, List.set_cons_zero, List.set_cons_succ, i64_w, i32_w]
         rfl
        exact norm_ (by first | (simp only [putAll, Act.put, List.setIfInBounds_toArray, List.set_cons_zero, List.set_cons_succ]; done) | (simp only [putAll, Act.put, List.setIfInBounds_toArray, List.set_cons_zero, List.set_cons_succ]; rfl)) (hJ2_4_5 (_, .slice Ao39 y186.length co39, .slice Ao40 y189.length co40) _ ⟨hHeld, (rk (Kd.R_mono HO188.out (fun _ hk => ⟨hk.2, hk.1⟩))), (rk HO191.out), (bk BK180.out), (bk BK181.out), (bk BK182.out), (hB HB.out)⟩)
       ·skip
        refine box_step ?hg (N := 6) ?hd (cs := #[.slice none 0 0]) (t := 29) ?hr ?_; (case hd => rfl); (case hg => rfl); (case hr => first | (go_simp; done) | (go_simp; rfl))
        intro gb192 hg w38 hbox hb
        have n0_ := Aside0.mk (Kd.R_below (rk HO185.out) hb)
        have n1_ := Aside0.mk (Kd.R_below (rk HO188.out) hb)
        have n2_ := Aside0.mk (blk_below (g := gb180) (o := .cells #[.slice A0_0 l0_0.length c0_0] 29 (0, 0)) (bk BK180.out) hb)
        have n3_ := Aside0.mk (blk_below (g := gb181) (o := .cells #[.int .i64 a1_0, .int .i64 a1_1, .int .i64 a1_2] 39 (0, 0)) (bk BK181.out) hb)
        have n4_ := Aside0.mk (blk_below (g := gb182) (o := .cells #[.slice none 0 0] 29 (0, 0)) (bk BK182.out) hb)
        have n5_ := Aside0.mk (below_step (hB HB.out) hb)
        have n6_ := Aside0.mk (hbox)
        have n7_ := Aside0.mk ((by rw [hg]; exact (below_size (hB HB.out)) : w.heap.size ≤ gb192))
        have n8_ := Aside0.mk ((by rw [hg]; exact (below_size (hB HB.out)) : w.heap.size ≤ gb192))
        have n9_ := Aside0.mk ((by rw [hg]; exact Nat.ne_of_lt (blk_lt (g := gb180) (o := .cells #[.slice A0_0 l0_0.length c0_0] 29 (0, 0)) (bk BK180.out)) : gb180 ≠ gb192))
        have n10_ := Aside0.mk ((by rw [hg]; exact Nat.ne_of_gt (blk_lt (g := gb180) (o := .cells #[.slice A0_0 l0_0.length c0_0] 29 (0, 0)) (bk BK180.out)) : gb192 ≠ gb180))
        have n11_ := Aside0.mk ((by rw [hg]; exact Nat.ne_of_lt (blk_lt (g := gb181) (o := .cells #[.int .i64 a1_0, .int .i64 a1_1, .int .i64 a1_2] 39 (0, 0)) (bk BK181.out)) : gb181 ≠ gb192))
        have n12_ := Aside0.mk ((by rw [hg]; exact Nat.ne_of_gt (blk_lt (g := gb181) (o := .cells #[.int .i64 a1_0, .int .i64 a1_1, .int .i64 a1_2] 39 (0, 0)) (bk BK181.out)) : gb192 ≠ gb181))
        have n13_ := Aside0.mk ((by rw [hg]; exact Nat.ne_of_lt (blk_lt (g := gb182) (o := .cells #[.slice none 0 0] 29 (0, 0)) (bk BK182.out)) : gb182 ≠ gb192))
        have n14_ := Aside0.mk ((by rw [hg]; exact Nat.ne_of_gt (blk_lt (g := gb182) (o := .cells #[.slice none 0 0] 29 (0, 0)) (bk BK182.out)) : gb192 ≠ gb182))
        clear HO185
        clear HO188
        clear BK180
        clear BK181
        clear BK182
        clear HB
        have HO185 := n0_
        have HO188 := n1_
        have BK180 := n2_
        have BK181 := n3_
        have BK182 := n4_
        have HB := n5_
        have BK192 := n6_
        have GW192 := n7_
        have GE192 := n8_
        have NB180_192 := n9_
        have NB192_180 := n10_
        have NB181_192 := n11_
        have NB192_181 := n12_
        have NB182_192 := n13_
        have NB192_182 := n14_
        clear n0_ n1_ n2_ n3_ n4_ n5_ n6_ n7_ n8_ n9_ n10_ n11_ n12_ n13_ n14_
        clear hb hbox hg
        refine hK.out _ _ ⟨(blk_cell BK180.out 0).trans rfl, (blk_cell BK181.out 0).trans rfl, (blk_cell BK181.out 1).trans rfl, (blk_cell BK181.out 2).trans rfl⟩ (fun hHeld => ?_)
        clear hK K
        refine norm_ (a' := ?_) ?_ ?_
        rotate_left
        ·show Act.put _ (some 6) _ = _
         simp only [Act.put, List.setIfInBounds_toArray, List.set_cons_zero, List.set_cons_succ, i64_w, i32_w]
         rfl
        exact norm_ (by first | (simp only [putAll, Act.put, List.setIfInBounds_toArray, List.set_cons_zero, List.set_cons_succ]; done) | (simp only [putAll, Act.put, List.setIfInBounds_toArray, List.set_cons_zero, List.set_cons_succ]; rfl)) (hJ2_4_7 (_, _, gb192) _ ⟨hHeld, (rk HO185.out), (rk HO188.out), (bk BK180.out), (bk BK181.out), (bk BK182.out), (bk BK192.out), GW192.out, GE192.out, NB180_192.out, NB192_180.out, NB181_192.out, NB192_181.out, NB182_192.out, NB192_182.out, (hB HB.out)⟩)
     ·skip
      rintro ⟨v184, v187, gb192⟩ w38 ⟨hS_, h0_, h1_, h2_, h3_, h4_, h5_, h6_, h7_, h8_, h9_, h10_, h11_, h12_, h13_, h14_⟩
      have n0_ : Aside0 (Kd.R k39 39 w38 w.heap.size (fun k_ => some k_ ≠ (v187 : Value).ownBlock ∧ k_ ≠ gb181) v184 t183) := ⟨h0_⟩
      have n1_ : Aside0 (Kd.R k39 39 w38 w.heap.size (fun k_ => some k_ ≠ (v184 : Value).ownBlock ∧ k_ ≠ gb181) v187 y186) := ⟨h1_⟩
      have n2_ : Aside0 (w38.heap[gb180]? = some (.cells #[.slice A0_0 l0_0.length c0_0] 29 (0, 0))) := ⟨h2_⟩
      have n3_ : Aside0 (w38.heap[gb181]? = some (.cells #[.int .i64 a1_0, .int .i64 a1_1, .int .i64 a1_2] 39 (0, 0))) := ⟨h3_⟩
      have n4_ : Aside0 (w38.heap[gb182]? = some (.cells #[.slice none 0 0] 29 (0, 0))) := ⟨h4_⟩
      have n5_ : Aside0 (w38.heap[gb192]? = some (.cells #[.slice none 0 0] 29 (0, 0))) := ⟨h5_⟩
      have n6_ : Aside0 (w.heap.size ≤ gb192) := ⟨h6_⟩
      have n7_ : Aside0 (w.heap.size ≤ gb192) := ⟨h7_⟩
      have n8_ : Aside0 (gb180 ≠ gb192) := ⟨h8_⟩
      have n9_ : Aside0 (gb192 ≠ gb180) := ⟨h9_⟩
      have n10_ : Aside0 (gb181 ≠ gb192) := ⟨h10_⟩
      have n11_ : Aside0 (gb192 ≠ gb181) := ⟨h11_⟩
      have n12_ : Aside0 (gb182 ≠ gb192) := ⟨h12_⟩
      have n13_ : Aside0 (gb192 ≠ gb182) := ⟨h13_⟩
      have n14_ : Aside0 (Below w.heap.size w w38) := ⟨h14_⟩
      clear BK180
      clear BK181
      clear BK182
      clear HB
      clear h0_ h1_ h2_ h3_ h4_ h5_ h6_ h7_ h8_ h9_ h10_ h11_ h12_ h13_ h14_
      have HO185 := n0_
      have HO188 := n1_
      have BK180 := n2_
      have BK181 := n3_
      have BK182 := n4_
      have BK192 := n5_
      have GW192 := n6_
      have GE192 := n7_
      have NB180_192 := n8_
      have NB192_180 := n9_
      have NB181_192 := n10_
      have NB192_181 := n11_
      have NB182_192 := n12_
      have NB192_182 := n13_
      have HB := n14_
      clear n0_ n1_ n2_ n3_ n4_ n5_ n6_ n7_ n8_ n9_ n10_ n11_ n12_ n13_ n14_
      have hHeld : w38.cell? ⟨gb180, 0, none⟩ = some (.slice A0_0 l0_0.length c0_0) ∧ w38.cell? ⟨gb181, 0, none⟩ = some (.int .i64 a1_0) ∧ w38.cell? ⟨gb181, 1, none⟩ = some (.int .i64 a1_1) ∧ w38.cell? ⟨gb181, 2, none⟩ = some (.int .i64 a1_2) := hS_
      obtain ⟨Ao40, co40, eo40⟩ := Kd.R_slice HO188.out
      (first | subst eo40 | (injection eo40 with f1_ f2_ f3_; have f4_ := f1_.symm; have f5_ := f3_.symm; clear f1_ f2_ f3_; subst f4_; subst f5_))
      refine norm_ (a' := ?_) ?_ ?_
      rotate_left
      ·simp only [putAll, Act.put, List.setIfInBounds_toArray, List.set_cons_zero, List.set_cons_succ]
       rfl
      refine one_ (i := 5) (N := some 12) #[true, true, true, true, true, true, false, true, false] rfl rfl (one_of HT_.out (by kernel_rfl)) (by decide) (fun K hK => ?_)
      refine Kd.R_append_rows_step k39 (w0 := w) w.heap.size (by rfl) (.tmp 9) (.tmp 11) 27 39 (.agg #[(.int .i64 0), (.int .i64 0), (.int .i64 0)]) 24 rfl Try.underlying27 info39 rfl (by decide) (by omega) v184 t183 y186 _ _ _ (fun k_ => some k_ ≠ (.slice Ao40 y186.length co40 : Value).ownBlock ∧ k_ ≠ gb181) (fun _ => False) rfl rfl ?aO ?aR (fun _ _ h => h) (fun _ h => h.elim) ?aF ?aB ?aS ?aL ?_
      (case aR => repeat (first | exact (Kd.R_reads' HO188.out).2.2 | (with_reducible refine Kd.C_alloc ?_ _) | (with_reducible refine Kd.C_drewN ?_ _) | (with_reducible refine Kd.C_drew ?_)))
      (case aB => exact (hB HB.out))
      (case aF => exact (fun k_ hk => ⟨Kd.fresh' (Kd.R_lt (rk HO188.out)) k_ hk, Kd.freshB (g := gb181) (o := .cells #[.int .i64 a1_0, .int .i64 a1_1, .int .i64 a1_2] 39 (0, 0)) (bk BK181.out) k_ hk⟩))
      (case aO => exact (rk HO185.out))
      (case aS => exact (below_size (hB HB.out)))
      (case aL => have := LMc4.out; omega)
      intro v190 w39 ho hb hg hat
      rw [← Ny189.out] at ho
      have n0_ := Aside0.mk (blk_grown (g := gb180) (o := .cells #[.slice A0_0 l0_0.length c0_0] 29 (0, 0)) (bk BK180.out) hg (Kd.R_ne HO185.out BK180.out (by decide)))
      have n1_ := Aside0.mk (blk_grown (g := gb181) (o := .cells #[.int .i64 a1_0, .int .i64 a1_1, .int .i64 a1_2] 39 (0, 0)) (bk BK181.out) hg (Kd.R_away HO185.out (fun _ hk => hk.2)))
      have n2_ := Aside0.mk (blk_grown (g := gb182) (o := .cells #[.slice none 0 0] 29 (0, 0)) (bk BK182.out) hg (Kd.R_ne HO185.out BK182.out (by decide)))
      have n3_ := Aside0.mk (Kd.R_after (ok := (fun k_ => k_ ≠ gb181)) (rk (Kd.R_mono HO188.out (fun _ hk => ⟨hk.2, hk.1⟩))) hg hat)
      have n4_ := Aside0.mk (blk_grown (g := gb192) (o := .cells #[.slice none 0 0] 29 (0, 0)) (bk BK192.out) hg (Kd.R_ne HO185.out BK192.out (by decide)))
      have n5_ := Aside0.mk (hb)
      have n6_ := Aside0.mk (ho)
      clear BK180
      clear BK181
      clear BK182
      clear HO188
      clear BK192
      clear HB
      clear HO185
      have BK180 := n0_
      have BK181 := n1_
      have BK182 := n2_
      have HO188 := n3_
      have BK192 := n4_
      have HB := n5_
      have HO191 := n6_
      clear n0_ n1_ n2_ n3_ n4_ n5_ n6_
      clear ho hb hg hat
      obtain ⟨Ao41, co41, eo41⟩ := Kd.R_slice HO191.out
      (first | subst eo41 | (injection eo41 with f1_ f2_ f3_; have f4_ := f1_.symm; have f5_ := f3_.symm; clear f1_ f2_ f3_; subst f4_; subst f5_))
      refine hK.out _ _ ⟨(blk_cell BK180.out 0).trans rfl, (blk_cell BK181.out 0).trans rfl, (blk_cell BK181.out 1).trans rfl, (blk_cell BK181.out 2).trans rfl⟩ (fun hHeld => ?_)
      clear hK K
      refine norm_ (a' := ?_) ?_ ?_
      rotate_left
      ·show Act.put _ (some 12) _ = _
       simp only [Act.put, List.setIfInBounds_toArray, List.set_cons_zero, List.set_cons_succ, i64_w, i32_w]
       rfl
      refine pure_ (i := 6) (N := some 13) (v := ?_) (a' := ?_) #[true, true, true, true, true, true, true, true, false] rfl rfl (any_of HT_.out (by kernel_rfl)) (fun _ _ _ h => h) (Or.inl ⟨by rfl, ?_⟩) ?_ ?_
      rotate_left
      ·intro w'
       go_simp
       with_reducible rfl
      rotate_left
      ·simp only [Act.put, List.setIfInBounds_toArray, List.set_cons_zero, List.set_cons_succ, i64_w, i32_w]
       rfl
      exact norm_ (by first | (simp only [putAll, Act.put, List.setIfInBounds_toArray, List.set_cons_zero, List.set_cons_succ]; done) | (simp only [putAll, Act.put, List.setIfInBounds_toArray, List.set_cons_zero, List.set_cons_succ]; rfl)) (hJ2_4_5_7 (_, .slice Ao40 y186.length co40, .slice Ao41 y189.length co41, gb192) _ ⟨hHeld, (rk (Kd.R_mono HO188.out (fun _ hk => ⟨hk.2, hk.1⟩))), (rk HO191.out), (bk BK180.out), (bk BK181.out), (bk BK182.out), (bk BK192.out), GW192.out, GE192.out, NB180_192.out, NB192_180.out, NB181_192.out, NB192_181.out, NB182_192.out, NB192_182.out, (hB HB.out)⟩)
    ·skip
     rintro ⟨v184, v187, v190⟩ w40 ⟨hS_, h0_, h1_, h2_, h3_, h4_, h5_⟩
     have n0_ : Aside0 (Kd.R k39 39 w40 w.heap.size (fun k_ => some k_ ≠ (v190 : Value).ownBlock ∧ k_ ≠ gb181) v187 y186) := ⟨h0_⟩
     have n1_ : Aside0 (Kd.R k39 39 w40 w.heap.size (fun k_ => some k_ ≠ (v187 : Value).ownBlock ∧ k_ ≠ gb181) v190 y189) := ⟨h1_⟩
     have n2_ : Aside0 (w40.heap[gb180]? = some (.cells #[.slice A0_0 l0_0.length c0_0] 29 (0, 0))) := ⟨h2_⟩
     have n3_ : Aside0 (w40.heap[gb181]? = some (.cells #[.int .i64 a1_0, .int .i64 a1_1, .int .i64 a1_2] 39 (0, 0))) := ⟨h3_⟩
     have n4_ : Aside0 (w40.heap[gb182]? = some (.cells #[.slice none 0 0] 29 (0, 0))) := ⟨h4_⟩
     have n5_ : Aside0 (Below w.heap.size w w40) := ⟨h5_⟩
     clear BK180
     clear BK181
     clear BK182
     clear HB
     clear h0_ h1_ h2_ h3_ h4_ h5_
     have HO188 := n0_
     have HO191 := n1_
     have BK180 := n2_
     have BK181 := n3_
     have BK182 := n4_
     have HB := n5_
     clear n0_ n1_ n2_ n3_ n4_ n5_
     have hHeld : w40.cell? ⟨gb180, 0, none⟩ = some (.slice A0_0 l0_0.length c0_0) ∧ w40.cell? ⟨gb181, 0, none⟩ = some (.int .i64 a1_0) ∧ w40.cell? ⟨gb181, 1, none⟩ = some (.int .i64 a1_1) ∧ w40.cell? ⟨gb181, 2, none⟩ = some (.int .i64 a1_2) := hS_
     obtain ⟨Ao41, co41, eo41⟩ := Kd.R_slice HO191.out
     (first | subst eo41 | (injection eo41 with f1_ f2_ f3_; have f4_ := f1_.symm; have f5_ := f3_.symm; clear f1_ f2_ f3_; subst f4_; subst f5_))
     refine norm_ (a' := ?_) ?_ ?_
     rotate_left
     ·simp only [putAll, Act.put, List.setIfInBounds_toArray, List.set_cons_zero, List.set_cons_succ]
      rfl
     refine one_ (i := 7) (N := some 6) #[true, true, true, true, true, true, true, true, false] rfl rfl (one_of HT_.out (by kernel_rfl)) (by decide) (fun K hK => ?_)
     refine box_step ?hg (N := 6) ?hd (cs := #[.slice none 0 0]) (t := 29) ?hr ?_; (case hd => rfl); (case hg => rfl); (case hr => first | (go_simp; done) | (go_simp; rfl))
     intro gb192 hg w42 hbox hb
     have n0_ := Aside0.mk (Kd.R_below (rk HO188.out) hb)
     have n1_ := Aside0.mk (Kd.R_below (rk HO191.out) hb)
     have n2_ := Aside0.mk (blk_below (g := gb180) (o := .cells #[.slice A0_0 l0_0.length c0_0] 29 (0, 0)) (bk BK180.out) hb)
     have n3_ := Aside0.mk (blk_below (g := gb181) (o := .cells #[.int .i64 a1_0, .int .i64 a1_1, .int .i64 a1_2] 39 (0, 0)) (bk BK181.out) hb)
     have n4_ := Aside0.mk (blk_below (g := gb182) (o := .cells #[.slice none 0 0] 29 (0, 0)) (bk BK182.out) hb)
     have n5_ := Aside0.mk (below_step (hB HB.out) hb)
     have n6_ := Aside0.mk (hbox)
     have n7_ := Aside0.mk ((by rw [hg]; exact (below_size (hB HB.out)) : w.heap.size ≤ gb192))
     have n8_ := Aside0.mk ((by rw [hg]; exact (below_size (hB HB.out)) : w.heap.size ≤ gb192))
     have n9_ := Aside0.mk ((by rw [hg]; exact Nat.ne_of_lt (blk_lt (g := gb180) (o := .cells #[.slice A0_0 l0_0.length c0_0] 29 (0, 0)) (bk BK180.out)) : gb180 ≠ gb192))
     have n10_ := Aside0.mk ((by rw [hg]; exact Nat.ne_of_gt (blk_lt (g := gb180) (o := .cells #[.slice A0_0 l0_0.length c0_0] 29 (0, 0)) (bk BK180.out)) : gb192 ≠ gb180))
     have n11_ := Aside0.mk ((by rw [hg]; exact Nat.ne_of_lt (blk_lt (g := gb181) (o := .cells #[.int .i64 a1_0, .int .i64 a1_1, .int .i64 a1_2] 39 (0, 0)) (bk BK181.out)) : gb181 ≠ gb192))
     have n12_ := Aside0.mk ((by rw [hg]; exact Nat.ne_of_gt (blk_lt (g := gb181) (o := .cells #[.int .i64 a1_0, .int .i64 a1_1, .int .i64 a1_2] 39 (0, 0)) (bk BK181.out)) : gb192 ≠ gb181))
     have n13_ := Aside0.mk ((by rw [hg]; exact Nat.ne_of_lt (blk_lt (g := gb182) (o := .cells #[.slice none 0 0] 29 (0, 0)) (bk BK182.out)) : gb182 ≠ gb192))
     have n14_ := Aside0.mk ((by rw [hg]; exact Nat.ne_of_gt (blk_lt (g := gb182) (o := .cells #[.slice none 0 0] 29 (0, 0)) (bk BK182.out)) : gb192 ≠ gb182))
     clear HO188
     clear HO191
     clear BK180
     clear BK181
     clear BK182
     clear HB
     have HO188 := n0_
     have HO191 := n1_
     have BK180 := n2_
     have BK181 := n3_
     have BK182 := n4_
     have HB := n5_
     have BK192 := n6_
     have GW192 := n7_
     have GE192 := n8_
     have NB180_192 := n9_
     have NB192_180 := n10_
     have NB181_192 := n11_
     have NB192_181 := n12_
     have NB182_192 := n13_
     have NB192_182 := n14_
     clear n0_ n1_ n2_ n3_ n4_ n5_ n6_ n7_ n8_ n9_ n10_ n11_ n12_ n13_ n14_
     clear hb hbox hg
     refine hK.out _ _ ⟨(blk_cell BK180.out 0).trans rfl, (blk_cell BK181.out 0).trans rfl, (blk_cell BK181.out 1).trans rfl, (blk_cell BK181.out 2).trans rfl⟩ (fun hHeld => ?_)
     clear hK K
     refine norm_ (a' := ?_) ?_ ?_
     rotate_left
     ·show Act.put _ (some 6) _ = _
      simp only [Act.put, List.setIfInBounds_toArray, List.set_cons_zero, List.set_cons_succ, i64_w, i32_w]
      rfl
     exact norm_ (by first | (simp only [putAll, Act.put, List.setIfInBounds_toArray, List.set_cons_zero, List.set_cons_succ]; done) | (simp only [putAll, Act.put, List.setIfInBounds_toArray, List.set_cons_zero, List.set_cons_succ]; rfl)) (hJ2_4_5_7 (_, _, .slice Ao41 y189.length co41, gb192) _ ⟨hHeld, (rk HO188.out), (rk HO191.out), (bk BK180.out), (bk BK181.out), (bk BK182.out), (bk BK192.out), GW192.out, GE192.out, NB180_192.out, NB192_180.out, NB181_192.out, NB192_181.out, NB182_192.out, NB192_182.out, (hB HB.out)⟩)
   rintro ⟨v184, v187, v190, gb192⟩ w41 ⟨hS_, h0_, h1_, h2_, h3_, h4_, h5_, h6_, h7_, h8_, h9_, h10_, h11_, h12_, h13_, h14_⟩
   have n0_ : Aside0 (Kd.R k39 39 w41 w.heap.size (fun k_ => some k_ ≠ (v190 : Value).ownBlock ∧ k_ ≠ gb181) v187 y186) := ⟨h0_⟩
   have n1_ : Aside0 (Kd.R k39 39 w41 w.heap.size (fun k_ => some k_ ≠ (v187 : Value).ownBlock ∧ k_ ≠ gb181) v190 y189) := ⟨h1_⟩
   have n2_ : Aside0 (w41.heap[gb180]? = some (.cells #[.slice A0_0 l0_0.length c0_0] 29 (0, 0))) := ⟨h2_⟩
   have n3_ : Aside0 (w41.heap[gb181]? = some (.cells #[.int .i64 a1_0, .int .i64 a1_1, .int .i64 a1_2] 39 (0, 0))) := ⟨h3_⟩
   have n4_ : Aside0 (w41.heap[gb182]? = some (.cells #[.slice none 0 0] 29 (0, 0))) := ⟨h4_⟩
   have n5_ : Aside0 (w41.heap[gb192]? = some (.cells #[.slice none 0 0] 29 (0, 0))) := ⟨h5_⟩
   have n6_ : Aside0 (w.heap.size ≤ gb192) := ⟨h6_⟩
   have n7_ : Aside0 (w.heap.size ≤ gb192) := ⟨h7_⟩
   have n8_ : Aside0 (gb180 ≠ gb192) := ⟨h8_⟩
   have n9_ : Aside0 (gb192 ≠ gb180) := ⟨h9_⟩
   have n10_ : Aside0 (gb181 ≠ gb192) := ⟨h10_⟩
   have n11_ : Aside0 (gb192 ≠ gb181) := ⟨h11_⟩
   have n12_ : Aside0 (gb182 ≠ gb192) := ⟨h12_⟩
   have n13_ : Aside0 (gb192 ≠ gb182) := ⟨h13_⟩
   have n14_ : Aside0 (Below w.heap.size w w41) := ⟨h14_⟩
   clear BK180
   clear BK181
   clear BK182
   clear HB
   clear h0_ h1_ h2_ h3_ h4_ h5_ h6_ h7_ h8_ h9_ h10_ h11_ h12_ h13_ h14_
   have HO188 := n0_
   have HO191 := n1_
   have BK180 := n2_
   have BK181 := n3_
   have BK182 := n4_
   have BK192 := n5_
   have GW192 := n6_
   have GE192 := n7_
   have NB180_192 := n8_
   have NB192_180 := n9_
   have NB181_192 := n10_
   have NB192_181 := n11_
   have NB182_192 := n12_
   have NB192_182 := n13_
   have HB := n14_
   clear n0_ n1_ n2_ n3_ n4_ n5_ n6_ n7_ n8_ n9_ n10_ n11_ n12_ n13_ n14_
   have hHeld : w41.cell? ⟨gb180, 0, none⟩ = some (.slice A0_0 l0_0.length c0_0) ∧ w41.cell? ⟨gb181, 0, none⟩ = some (.int .i64 a1_0) ∧ w41.cell? ⟨gb181, 1, none⟩ = some (.int .i64 a1_1) ∧ w41.cell? ⟨gb181, 2, none⟩ = some (.int .i64 a1_2) := hS_
   obtain ⟨Ao42, co42, eo42⟩ := Kd.R_slice HO191.out
   (first | subst eo42 | (injection eo42 with f1_ f2_ f3_; have f4_ := f1_.symm; have f5_ := f3_.symm; clear f1_ f2_ f3_; subst f4_; subst f5_))
   refine norm_ (a' := ?_) ?_ ?_
   rotate_left
   ·simp only [putAll, Act.put, List.setIfInBounds_toArray, List.set_cons_zero, List.set_cons_succ]
    rfl
   refine one_ (i := 8) (N := none) #[true, true, true, true, true, true, true, true, true] rfl rfl (one_of HT_.out (by kernel_rfl)) (by decide) (fun K hK => ?_)
   have hs43 : w41.cell? ⟨gb192, 0, none⟩ = some (.slice none 0 0) := (blk_cell BK192.out 0).trans rfl
   have hfs43 := blk_frozen BK192.out 0
   have hns43_0 := NB180_192.out
   have hns43_1 := NB181_192.out
   have hns43_2 := NB182_192.out
   have hms43_0 := NB192_180.out
   have hms43_1 := NB192_181.out
   have hms43_2 := NB192_182.out
   refine skip_ (w1 := ?_) (by rfl) rfl ?_ ?_
   rotate_left
   ·go_simp
    rfl
   refine hK.out _ _ ⟨((cell_far (p := ⟨gb192, _, none⟩) NB180_192.out _).trans (hHeld.1)), ((cell_far (p := ⟨gb192, _, none⟩) NB181_192.out _).trans (hHeld.2.1)), ((cell_far (p := ⟨gb192, _, none⟩) NB181_192.out _).trans (hHeld.2.2.1)), ((cell_far (p := ⟨gb192, _, none⟩) NB181_192.out _).trans (hHeld.2.2.2))⟩ (fun hHeld => ?_)
   clear hK K
   refine done_ (done_of HT_.out (by kernel_rfl)) ?_
   have hnb44 := NB192_180.out
   have hnc44 := NB180_192.out
   have hnb45 := NB192_181.out
   have hnc45 := NB181_192.out
   have hnb46 := NB192_182.out
   have hnc46 := NB182_192.out
   have hcz47_0 : w41.cell? ⟨gb192, 0, none⟩ = some (.slice none 0 0) := (blk_cell BK192.out 0).trans rfl
   have hfz47_0 := blk_frozen BK192.out 0
   try go_wp2_with (first | ((with_reducible refine gate_callee (f := 18) rfl ?_); refine goesL_ (some 15) rfl rfl Try.func18 (by kernel_rfl) rfl #[.agg #[.slice Ao42 y189.length co42]] rfl (by (try simp only [List.map_toArray, List.map_cons, List.map_nil]); first | done | rfl | (simp only [List.length_drop, List.length_take]; rfl)) ?_; (with_reducible refine (impl_IsPuzzle.calls k _ _ y189 false _ ?side1 ?side2 A5.out).mono ?_); (case side1 => refine (Kd.R_reads' (e := 39) (base := w.heap.size) (ok := fun k_ => (some k_ ≠ (v187 : Value).ownBlock ∧ k_ ≠ gb181)) (n := y189.length) (c := co42) ?_).2.2; exact (rk (Kd.R_mono (Kd.R_far (p := ⟨gb192, 0, none⟩) (Kd.R_types HO191.out BK192.out (by decide)) (fun _ hk => hk.2) (.slice Ao42 y189.length co42)) (fun _ h_ => h_.1)))); (case side2 => exact (Kd.R_reads' HO191.out).2.1); rintro e w48 ⟨rfl, hb⟩; refine ⟨_, rfl, ?_⟩; have n0_ := Aside0.mk (Kd.R_below (rk (Kd.R_mono (Kd.R_far (p := ⟨gb192, 0, none⟩) (Kd.R_types HO188.out BK192.out (by decide)) (fun _ hk => hk.2) (.slice Ao42 y189.length co42)) (fun _ h_ => h_.1))) hb); have n1_ := Aside0.mk (Kd.R_below (rk (Kd.R_mono (Kd.R_far (p := ⟨gb192, 0, none⟩) (Kd.R_types HO191.out BK192.out (by decide)) (fun _ hk => hk.2) (.slice Ao42 y189.length co42)) (fun _ h_ => h_.1))) hb); have n2_ := Aside0.mk (blk_below (g := gb180) (o := .cells #[.slice A0_0 l0_0.length c0_0] 29 (0, 0)) (by (with_reducible repeat (first | refine blk_drewN ?_ _ | refine blk_drew ?_ | refine blk_alloc ?_ _)); refine blk_far ?_ NB180_192.out _; (with_reducible repeat (first | refine blk_drewN ?_ _ | refine blk_drew ?_ | refine blk_alloc ?_ _)); exact BK180.out) hb); have n3_ := Aside0.mk (blk_below (g := gb181) (o := .cells #[.int .i64 a1_0, .int .i64 a1_1, .int .i64 a1_2] 39 (0, 0)) (by (with_reducible repeat (first | refine blk_drewN ?_ _ | refine blk_drew ?_ | refine blk_alloc ?_ _)); refine blk_far ?_ NB181_192.out _; (with_reducible repeat (first | refine blk_drewN ?_ _ | refine blk_drew ?_ | refine blk_alloc ?_ _)); exact BK181.out) hb); have n4_ := Aside0.mk (blk_below (g := gb182) (o := .cells #[.slice none 0 0] 29 (0, 0)) (by (with_reducible repeat (first | refine blk_drewN ?_ _ | refine blk_drew ?_ | refine blk_alloc ?_ _)); refine blk_far ?_ NB182_192.out _; (with_reducible repeat (first | refine blk_drewN ?_ _ | refine blk_drew ?_ | refine blk_alloc ?_ _)); exact BK182.out) hb); have n5_ := Aside0.mk (blk_below (g := gb192) (o := .cells #[.slice Ao42 y189.length co42] 29 (0, 0)) (by (with_reducible repeat (first | refine blk_drewN ?_ _ | refine blk_drew ?_ | refine blk_alloc ?_ _)); refine blk_put (cs := #[.slice none 0 0]) ?_ 0 _ rfl; (with_reducible repeat (first | refine blk_drewN ?_ _ | refine blk_drew ?_ | refine blk_alloc ?_ _)); exact BK192.out) hb); have n6_ := Aside0.mk (below_step (hB HB.out) hb); clear HO188; clear HO191; clear BK180; clear BK181; clear BK182; clear BK192; clear HB; have HO188 := n0_; have HO191 := n1_; have BK180 := n2_; have BK181 := n3_; have BK182 := n4_; have BK192 := n5_; have HB := n6_; clear n0_ n1_ n2_ n3_ n4_ n5_ n6_; (try clear hb); (try clear hb2); (try clear hk); (try clear hi); have hnb49 := NB182_180.out; have hnc49 := NB180_182.out; have hnb50 := NB182_181.out; have hnc50 := NB181_182.out; have hcz51_0 : w48.cell? ⟨gb182, 0, none⟩ = some (.slice none 0 0) := (blk_cell BK182.out 0).trans rfl; have hfz51_0 := blk_frozen BK182.out 0))
   refine bodyPost_ret (results_ct rfl _ _ gb182 29 #[.slice none 0 0] (0, 0) _ rfl (by (with_reducible repeat (first | refine blk_drewN ?_ _ | refine blk_drew ?_ | refine blk_alloc ?_ _)); refine blk_put (cs := #[.slice none 0 0]) ?_ 0 _ rfl; (with_reducible repeat (first | refine blk_drewN ?_ _ | refine blk_drew ?_ | refine blk_alloc ?_ _)); exact BK182.out) Try.underlying29 rfl (by kernel_rfl)) rfl ?_
   exact ⟨_, by first | rfl | (simp [errW_none, errW_some] <;> rfl) | (simp [*, errW_none, errW_some] <;> rfl), by first | exact Kd.R_nil _ _ _ _ _ | exact Kd.N_nil _ _ _ _ _ | exact Kd.V_nil _ _ _ _ _ | exact Kd.Q_nil _ _ _ _ _ | exact Kd.S_nil _ _ _ _ _, hB HB.out⟩
 ·rw [if_neg c4] at H
  exact absurd H (by simp)

end Go.Proofs.Ytmfcpebojnikkaa.QFnExactAddClue
