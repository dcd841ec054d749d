import Derived.Test.YtnpfeemkichniaaHiF0
namespace Go.Proofs.Ytnpfeemkichniaa.Hi
open Go Go.Proofs.YtnpfeemkichniaaPi Go.RowKit
set_option maxRecDepth 100000
set_option linter.unusedVariables false
namespace spec_l1Cur_puzzle
noncomputable def p (K : Nat) (a0 : List Int) (a1 a2 : Int) : Option ((List (Int × (Int × Int))) × ((List Int) × (Int × Int))) := PI Cx K 59 [.sv (.agg [.sl 5 (.int .u8) a0, .int .i64 a1, .int .u64 a2])]
noncomputable def q0 (K m : Nat) (x0 : List Int) (x1 x2 : Int) (x3 : List (Int × (Int × Int))) : Option ((List (Int × (Int × Int))) × ((List Int) × (Int × Int))) := loopAt Cx K 59 [true, true, false, true, true, true, true, true, false, true] [] m ⟨[(0, .sv (.one (.ptr 9000000000000000 0))), (2, .sv (.one (.ptr 0 0))), (3, .sv (.one (.ptr 1002000 0)))], [(9000000000000000, .box 81 [.sl 5 (.int .u8) x0, .int .i64 x1, .int .u64 x2]), (0, .box 26 [.nilsl]), (1002000, .box 26 [.full 2000001002000000]), (2000001002000000, .row 28 (.pair (.int .i64) (.pair (.int .i64) (.int .i64))) x3 .own)], []⟩
noncomputable def b (L0 : List Int → Int → Int → List (Int × (Int × Int)) → Option ((List (Int × (Int × Int))) × ((List Int) × (Int × Int)))) (g0 : List Int → Int → Int → Int → Option ((List (Int × (Int × Int))) × ((List Int) × (Int × Int)))) (g1 : List Int → Int → Int → Int → Option (Int × ((List Int) × (Int × Int)))) (g2 : List Int → Int → Int → Option ((Int × (Int × Int)) × ((List Int) × (Int × Int)))) (a0 : List Int) (a1 a2 : Int) : Option ((List (Int × (Int × Int))) × ((List Int) × (Int × Int))) :=
 (g0 a0 a1 a2 5).bind fun t0 =>
 (g1 t0.2.1 t0.2.2.1 t0.2.2.2 12).bind fun t1 =>
 if (t1.1 == 0) = true then ((g2 t1.2.1 t1.2.2.1 t1.2.2.2).bind fun t2 =>
 if ((dlenN t0.1) + 1) ≤ 5864062014805 then (some ((t0.1 ++ [t2.1]), t2.2)) else (none)) else (if (t1.1 == 1) = true then (L0 t1.2.1 t1.2.2.1 t1.2.2.2 t0.1) else (some (t0.1, t1.2)))
noncomputable def b0 (L0 : List Int → Int → Int → List (Int × (Int × Int)) → Option ((List (Int × (Int × Int))) × ((List Int) × (Int × Int)))) (g1 : List Int → Int → Int → Int → Option (Int × ((List Int) × (Int × Int)))) (x0 : List Int) (x1 x2 : Int) (x3 : List (Int × (Int × Int))) : Option ((List (Int × (Int × Int))) × ((List Int) × (Int × Int))) :=
 (g1 x0 x1 x2 2).bind fun t0 =>
 if (decide ((dlen x3) < (wrap64 (6 + t0.1)))) = true then (if ((dlenN x3) + 1) ≤ 5864062014805 then (L0 t0.2.1 t0.2.2.1 t0.2.2.2 (x3 ++ [(2, (0, 9))])) else (none)) else (some (x3, t0.2))
noncomputable def l0 : Nat → List Int → Int → Int → List (Int × (Int × Int)) → Option ((List (Int × (Int × Int))) × ((List Int) × (Int × Int)))
 | 0, _, _, _, _ => none
 | k + 1, x0, x1, x2, x3 => b0 (l0 k) spec_l1Cur_pick.f x0 x1 x2 x3
noncomputable def f (k : Nat) (a0 : List Int) (a1 a2 : Int) : Option ((List (Int × (Int × Int))) × ((List Int) × (Int × Int))) := b (l0 k) (spec_l1Cur_surePuzzle.f k) spec_l1Cur_pick.f spec_l1Cur_clue.f a0 a1 a2
theorem e (K : Nat) (a0 : List Int) (a1 a2 : Int) : p (K + 1) a0 a1 a2 = b (q0 K K) (spec_l1Cur_surePuzzle.p K) (spec_l1Cur_pick.p K) (spec_l1Cur_clue.p K) a0 a1 a2 := by kernel_rfl
theorem e0 (K m : Nat) (x0 : List Int) (x1 x2 : Int) (x3 : List (Int × (Int × Int))) : q0 K (m + 1) x0 x1 x2 x3 = b0 (q0 K m) (spec_l1Cur_pick.p K) x0 x1 x2 x3 := by kernel_rfl
theorem kl (n : Nat) : ∀ K, n + 5 ≤ K → (∀ m, n ≤ m → ∀ (x0 : List Int) (x1 x2 : Int) (x3 : List (Int × (Int × Int))), Le (l0 n x0 x1 x2 x3) (q0 K m x0 x1 x2 x3)) := by
 induction n with
 | zero => exact fun K _ => fun _ _ _ _ _ _ => Le.none
 | succ n ih =>
  intro K hK
  have ih := ih K (by omega)
  intro m hm x0 x1 x2 x3
  obtain ⟨m, rfl⟩ := pos_of_le hm
  rw [e0]
  show Le (b0 (l0 n) spec_l1Cur_pick.f x0 x1 x2 x3) _
  unfold b0
  repeat' first | with_reducible apply Le.bind | with_reducible apply Le.ite | with_reducible exact Le.rfl | with_reducible refine ih _ ?_ _ _ _ _ | with_reducible refine spec_l1Cur_pick.k ?_ _ _ _ _ | with_reducible intro _ | omega
theorem k {n K : Nat} (h : n + 6 ≤ K) (a0 : List Int) (a1 a2 : Int) : Le (f n a0 a1 a2) (p K a0 a1 a2) := by
 obtain ⟨K, rfl⟩ := pos_of_le (show 0 + 1 ≤ K by omega)
 have kl := kl n K (by omega)
 rw [e]
 unfold f b
 repeat' first | with_reducible apply Le.bind | with_reducible apply Le.ite | with_reducible exact Le.rfl | with_reducible refine kl _ ?_ _ _ _ _ | with_reducible refine spec_l1Cur_surePuzzle.k ?_ _ _ _ _ | with_reducible refine spec_l1Cur_pick.k ?_ _ _ _ _ | with_reducible refine spec_l1Cur_clue.k ?_ _ _ _ | with_reducible intro _ | omega
end spec_l1Cur_puzzle
namespace spec_DrawHarderPuzzle
noncomputable def p (K : Nat) (a0 : List Int) : Option (List (Int × (Int × Int))) := PI Cx K 27 [.sv (.one (.sl 5 (.int .u8) a0))]
noncomputable def b (g0 : List Int → Int → Int → Int → Option (Bool × ((List Int) × (Int × Int)))) (g1 : List Int → Int → Int → Option ((List (Int × (Int × Int))) × ((List Int) × (Int × Int)))) (g2 : List Int → Int → Int → Option ((Int × Int) × ((List Int) × (Int × Int)))) (g3 : List Int → Int → Int → Int → Option (Int × ((List Int) × (Int × Int)))) (g4 : Int → Int → Int → Int → Option ((List (Int × (Int × Int))) × Bool)) (g5 : Int → Int → Int → Int → Option (Int × (Int × Int))) (a0 : List Int) : Option (List (Int × (Int × Int))) :=
 (g0 a0 0 0 4).bind fun t0 =>
 if t0.1 = true then ((g1 t0.2.1 t0.2.2.1 t0.2.2.2).bind fun t1 =>
 some t1.1) else ((g2 t0.2.1 t0.2.2.1 t0.2.2.2).bind fun t1 =>
 (g3 t1.2.1 t1.2.2.1 t1.2.2.2 4).bind fun t2 =>
 (g3 t2.2.1 t2.2.2.1 t2.2.2.2 10000).bind fun t3 =>
 (g4 t1.1.1 t1.1.2 t2.1 t3.1).bind fun t4 =>
 (g5 2 0 t1.1.1 t1.1.2).bind fun t5 =>
 (g5 4 0 t1.1.1 t1.1.2).bind fun t6 =>
 if ((dlenN t4.1) + 2) ≤ 5864062014805 then (some (t4.1 ++ [t5, t6])) else (none))
noncomputable def f (k : Nat) (a0 : List Int) : Option (List (Int × (Int × Int))) := b spec_l1Cur_one.f (spec_l1Cur_puzzle.f k) spec_l1Cur_hidden.f spec_l1Cur_pick.f (spec_MakePuzzle.f k) spec_pzOf.f a0
theorem e (K : Nat) (a0 : List Int) : p (K + 1) a0 = b (spec_l1Cur_one.p K) (spec_l1Cur_puzzle.p K) (spec_l1Cur_hidden.p K) (spec_l1Cur_pick.p K) (spec_MakePuzzle.p K) (spec_pzOf.p K) a0 := by kernel_rfl
theorem k {n K : Nat} (h : n + 7 ≤ K) (a0 : List Int) : Le (f n a0) (p K a0) := by
 obtain ⟨K, rfl⟩ := pos_of_le (show 0 + 1 ≤ K by omega)
 rw [e]
 unfold f b
 repeat' first | with_reducible apply Le.bind | with_reducible apply Le.ite | with_reducible exact Le.rfl | with_reducible refine spec_l1Cur_one.k ?_ _ _ _ _ | with_reducible refine spec_l1Cur_puzzle.k ?_ _ _ _ | with_reducible refine spec_l1Cur_hidden.k ?_ _ _ _ | with_reducible refine spec_l1Cur_pick.k ?_ _ _ _ _ | with_reducible refine spec_MakePuzzle.k ?_ _ _ _ _ | with_reducible refine spec_pzOf.k ?_ _ _ _ _ | with_reducible intro _ | omega
end spec_DrawHarderPuzzle
namespace impl_solutions_1
noncomputable def p (K : Nat) (a0 a1 a2 a3 a4 : Int) : Option Bool := PI Cx K 66 [.sv (.agg [.int .i64 a0, .int .i64 a1, .int .i64 a2]), .sv (.one (.rptr [.int .i64 a3, .int .i64 a4] 0))]
noncomputable def b (g0 : Int → Int → Int → Int → Int → Option Bool) (a0 a1 a2 a3 a4 : Int) : Option Bool :=
 (g0 a0 a1 a2 a3 a4).bind fun t0 =>
 some (!t0)
noncomputable def f (a0 a1 a2 a3 a4 : Int) : Option Bool := b impl_doesFit.f a0 a1 a2 a3 a4
theorem e (K : Nat) (a0 a1 a2 a3 a4 : Int) : p (K + 1) a0 a1 a2 a3 a4 = b (impl_doesFit.p K) a0 a1 a2 a3 a4 := by kernel_rfl
theorem k {K : Nat} (h : 5 ≤ K) (a0 a1 a2 a3 a4 : Int) : Le (f a0 a1 a2 a3 a4) (p K a0 a1 a2 a3 a4) := by
 obtain ⟨K, rfl⟩ := pos_of_le (show 0 + 1 ≤ K by omega)
 rw [e]
 unfold f b
 repeat' first | with_reducible apply Le.bind | with_reducible apply Le.ite | with_reducible exact Le.rfl | with_reducible refine impl_doesFit.k ?_ _ _ _ _ _ | with_reducible intro _ | omega
end impl_solutions_1
namespace slices_IndexFunc_impl_Clue_impl_Clue_impl_solutions_1
noncomputable def p (K : Nat) (a0 : List (Int × (Int × Int))) (a1 a2 : Int) : Option Int := PI Cx K 65 [.sv (.one (.sl 28 (.pair (.int .i64) (.pair (.int .i64) (.int .i64))) a0)), .sv (.one (.fn 66 [.rptr [.int .i64 a1, .int .i64 a2] 0]))]
noncomputable def q0 (K m : Nat) (x0 : List (Int × (Int × Int))) (x1 x2 x3 x4 : Int) : Option Int := loopAt Cx K 65 [true, false, true, true] [] m ⟨[(0, .sv (.one (.sl 28 (.pair (.int .i64) (.pair (.int .i64) (.int .i64))) x0))), (1, .sv (.one (.fn 66 [.rptr [.int .i64 x1, .int .i64 x2] 0]))), (7, .sv (.one (.int .i64 x3))), (8, .sv (.one (.int .i64 x4)))], [], []⟩
noncomputable def b (L0 : List (Int × (Int × Int)) → Int → Int → Int → Int → Option Int) (a0 : List (Int × (Int × Int))) (a1 a2 : Int) : Option Int :=
 L0 a0 a1 a2 (dlen a0) 0
noncomputable def b0 (L0 : List (Int × (Int × Int)) → Int → Int → Int → Int → Option Int) (g0 : Int → Int → Int → Int → Int → Option Bool) (x0 : List (Int × (Int × Int))) (x1 x2 x3 x4 : Int) : Option Int :=
 if (decide (x4 < x3)) = true then (if 0 ≤ x4 then (if x4 < (dlen x0) then ((g0 (rd (0, (0, 0)) x0 x4).1 (rd (0, (0, 0)) x0 x4).2.1 (rd (0, (0, 0)) x0 x4).2.2 x1 x2).bind fun t0 =>
 if t0 = true then (some x4) else (L0 x0 x1 x2 x3 (wrap64 (x4 + 1)))) else (none)) else (none)) else (some (-1))
noncomputable def l0 : Nat → List (Int × (Int × Int)) → Int → Int → Int → Int → Option Int
 | 0, _, _, _, _, _ => none
 | k + 1, x0, x1, x2, x3, x4 => b0 (l0 k) impl_solutions_1.f x0 x1 x2 x3 x4
noncomputable def f (k : Nat) (a0 : List (Int × (Int × Int))) (a1 a2 : Int) : Option Int := b (l0 k) a0 a1 a2
theorem e (K : Nat) (a0 : List (Int × (Int × Int))) (a1 a2 : Int) : p (K + 1) a0 a1 a2 = b (q0 K K) a0 a1 a2 := by kernel_rfl
theorem e0 (K m : Nat) (x0 : List (Int × (Int × Int))) (x1 x2 x3 x4 : Int) : q0 K (m + 1) x0 x1 x2 x3 x4 = b0 (q0 K m) (impl_solutions_1.p K) x0 x1 x2 x3 x4 := by kernel_rfl
theorem kl (n : Nat) : ∀ K, n + 5 ≤ K → (∀ m, n ≤ m → ∀ (x0 : List (Int × (Int × Int))) (x1 x2 x3 x4 : Int), Le (l0 n x0 x1 x2 x3 x4) (q0 K m x0 x1 x2 x3 x4)) := by
 induction n with
 | zero => exact fun K _ => fun _ _ _ _ _ _ _ => Le.none
 | succ n ih =>
  intro K hK
  have ih := ih K (by omega)
  intro m hm x0 x1 x2 x3 x4
  obtain ⟨m, rfl⟩ := pos_of_le hm
  rw [e0]
  show Le (b0 (l0 n) impl_solutions_1.f x0 x1 x2 x3 x4) _
  unfold b0
  repeat' first | with_reducible apply Le.bind | with_reducible apply Le.ite | with_reducible exact Le.rfl | with_reducible refine ih _ ?_ _ _ _ _ _ | with_reducible refine impl_solutions_1.k ?_ _ _ _ _ _ | with_reducible intro _ | omega
theorem k {n K : Nat} (h : n + 6 ≤ K) (a0 : List (Int × (Int × Int))) (a1 a2 : Int) : Le (f n a0 a1 a2) (p K a0 a1 a2) := by
 obtain ⟨K, rfl⟩ := pos_of_le (show 0 + 1 ≤ K by omega)
 have kl := kl n K (by omega)
 rw [e]
 unfold f b
 repeat' first | with_reducible apply Le.bind | with_reducible apply Le.ite | with_reducible exact Le.rfl | with_reducible refine kl _ ?_ _ _ _ _ _ | with_reducible intro _ | omega
end slices_IndexFunc_impl_Clue_impl_Clue_impl_solutions_1
namespace slices_ContainsFunc_impl_Clue_impl_Clue_impl_solutions_1
noncomputable def p (K : Nat) (a0 : List (Int × (Int × Int))) (a1 a2 : Int) : Option Bool := PI Cx K 44 [.sv (.one (.sl 28 (.pair (.int .i64) (.pair (.int .i64) (.int .i64))) a0)), .sv (.one (.fn 66 [.rptr [.int .i64 a1, .int .i64 a2] 0]))]
noncomputable def b (g0 : List (Int × (Int × Int)) → Int → Int → Option Int) (a0 : List (Int × (Int × Int))) (a1 a2 : Int) : Option Bool :=
 (g0 a0 a1 a2).bind fun t0 =>
 some (decide (t0 ≥ 0))
noncomputable def f (k : Nat) (a0 : List (Int × (Int × Int))) (a1 a2 : Int) : Option Bool := b (slices_IndexFunc_impl_Clue_impl_Clue_impl_solutions_1.f k) a0 a1 a2
theorem e (K : Nat) (a0 : List (Int × (Int × Int))) (a1 a2 : Int) : p (K + 1) a0 a1 a2 = b (slices_IndexFunc_impl_Clue_impl_Clue_impl_solutions_1.p K) a0 a1 a2 := by kernel_rfl
theorem k {n K : Nat} (h : n + 7 ≤ K) (a0 : List (Int × (Int × Int))) (a1 a2 : Int) : Le (f n a0 a1 a2) (p K a0 a1 a2) := by
 obtain ⟨K, rfl⟩ := pos_of_le (show 0 + 1 ≤ K by omega)
 rw [e]
 unfold f b
 repeat' first | with_reducible apply Le.bind | with_reducible apply Le.ite | with_reducible exact Le.rfl | with_reducible refine slices_IndexFunc_impl_Clue_impl_Clue_impl_solutions_1.k ?_ _ _ _ | with_reducible intro _ | omega
end slices_ContainsFunc_impl_Clue_impl_Clue_impl_solutions_1
namespace impl_solutions
noncomputable def p (K : Nat) (a0 : List (Int × (Int × Int))) : Option (List (Int × Int)) := PI Cx K 46 [.sv (.one (.sl 28 (.pair (.int .i64) (.pair (.int .i64) (.int .i64))) a0))]
noncomputable def q0 (K m : Nat) (x0 : List (Int × (Int × Int))) (x1 : Int) (x2 : List (Int × Int)) : Option (List (Int × Int)) := loopAt Cx K 46 [true, true, false, true, true] [] m ⟨[(0, .sv (.one (.sl 28 (.pair (.int .i64) (.pair (.int .i64) (.int .i64))) x0))), (3, .sv (.one (.full 1000000003000))), (4, .sv (.one (.int .i64 x1)))], [(1000000003000, .row 23 (.pair (.int .i64) (.int .i64)) x2 .own)], []⟩
noncomputable def q1 (K m0 m : Nat) (x0 : List (Int × (Int × Int))) (x1 x2 : Int) (x3 : List (Int × Int)) : Option (List (Int × Int)) := loopAt Cx K 46 [true, true, false, true, true, true, true, false, true, true, true] [m0] m ⟨[(0, .sv (.one (.sl 28 (.pair (.int .i64) (.pair (.int .i64) (.int .i64))) x0))), (3, .sv (.one (.full 1000000003000))), (4, .sv (.one (.int .i64 x1))), (11, .sv (.one (.int .i64 x2)))], [(1000000003000, .row 23 (.pair (.int .i64) (.int .i64)) x3 .own)], []⟩
noncomputable def b (L0 : List (Int × (Int × Int)) → Int → List (Int × Int) → Option (List (Int × Int))) (a0 : List (Int × (Int × Int))) : Option (List (Int × Int)) :=
 L0 a0 1 ([] : List (Int × Int))
noncomputable def b0 (L1 : List (Int × (Int × Int)) → Int → Int → List (Int × Int) → Option (List (Int × Int))) (x0 : List (Int × (Int × Int))) (x1 : Int) (x2 : List (Int × Int)) : Option (List (Int × Int)) :=
 if (decide (x1 ≤ 12)) = true then (L1 x0 x1 0 x2) else (some x2)
noncomputable def b1 (L1 : List (Int × (Int × Int)) → Int → Int → List (Int × Int) → Option (List (Int × Int))) (L0 : List (Int × (Int × Int)) → Int → List (Int × Int) → Option (List (Int × Int))) (g0 : List (Int × (Int × Int)) → Int → Int → Option Bool) (x0 : List (Int × (Int × Int))) (x1 x2 : Int) (x3 : List (Int × Int)) : Option (List (Int × Int)) :=
 if (decide (x2 < 13)) = true then ((g0 x0 x1 x2).bind fun t0 =>
 if (!t0) = true then (if ((dlenN x3) + 1) ≤ 8796093022208 then (L1 x0 x1 (wrap64 (x2 + 1)) (x3 ++ [(x1, x2)])) else (none)) else (L1 x0 x1 (wrap64 (x2 + 1)) x3)) else (L0 x0 (wrap64 (x1 + 1)) x3)
mutual
noncomputable def l0 : Nat → List (Int × (Int × Int)) → Int → List (Int × Int) → Option (List (Int × Int))
 | 0, _, _, _ => none
 | k + 1, x0, x1, x2 => b0 (l1 k) x0 x1 x2
noncomputable def l1 : Nat → List (Int × (Int × Int)) → Int → Int → List (Int × Int) → Option (List (Int × Int))
 | 0, _, _, _, _ => none
 | k + 1, x0, x1, x2, x3 => b1 (l1 k) (l0 k) (slices_ContainsFunc_impl_Clue_impl_Clue_impl_solutions_1.f k) x0 x1 x2 x3
end
noncomputable def f (k : Nat) (a0 : List (Int × (Int × Int))) : Option (List (Int × Int)) := b (l0 k) a0
theorem e (K : Nat) (a0 : List (Int × (Int × Int))) : p (K + 1) a0 = b (q0 K K) a0 := by kernel_rfl
theorem e0 (K m : Nat) (x0 : List (Int × (Int × Int))) (x1 : Int) (x2 : List (Int × Int)) : q0 K (m + 1) x0 x1 x2 = b0 (q1 K m K) x0 x1 x2 := by kernel_rfl
theorem e1 (K m0 m : Nat) (x0 : List (Int × (Int × Int))) (x1 x2 : Int) (x3 : List (Int × Int)) : q1 K m0 (m + 1) x0 x1 x2 x3 = b1 (q1 K m0 m) (q0 K m0) (slices_ContainsFunc_impl_Clue_impl_Clue_impl_solutions_1.p K) x0 x1 x2 x3 := by kernel_rfl
theorem kl (n : Nat) : ∀ K, n + 7 ≤ K → (∀ m, n ≤ m → ∀ (x0 : List (Int × (Int × Int))) (x1 : Int) (x2 : List (Int × Int)), Le (l0 n x0 x1 x2) (q0 K m x0 x1 x2)) ∧ (∀ m0, n ≤ m0 → ∀ m, n ≤ m → ∀ (x0 : List (Int × (Int × Int))) (x1 x2 : Int) (x3 : List (Int × Int)), Le (l1 n x0 x1 x2 x3) (q1 K m0 m x0 x1 x2 x3)) := by
 induction n with
 | zero => exact fun K _ => ⟨fun _ _ _ _ _ => Le.none, fun _ _ _ _ _ _ _ _ => Le.none⟩
 | succ n ih =>
  intro K hK
  have ih := ih K (by omega)
  refine ⟨?_, ?_⟩
  · intro m hm x0 x1 x2
    obtain ⟨m, rfl⟩ := pos_of_le hm
    rw [e0]
    show Le (b0 (l1 n) x0 x1 x2) _
    unfold b0
    repeat' first | with_reducible apply Le.bind | with_reducible apply Le.ite | with_reducible exact Le.rfl | with_reducible refine ih.1 _ ?_ _ _ _ | with_reducible refine ih.2 _ ?_ _ ?_ _ _ _ _ | with_reducible intro _ | omega
  · intro m0 h0 m hm x0 x1 x2 x3
    obtain ⟨m, rfl⟩ := pos_of_le hm
    rw [e1]
    show Le (b1 (l1 n) (l0 n) (slices_ContainsFunc_impl_Clue_impl_Clue_impl_solutions_1.f n) x0 x1 x2 x3) _
    unfold b1
    repeat' first | with_reducible apply Le.bind | with_reducible apply Le.ite | with_reducible exact Le.rfl | with_reducible refine ih.1 _ ?_ _ _ _ | with_reducible refine ih.2 _ ?_ _ ?_ _ _ _ _ | with_reducible refine slices_ContainsFunc_impl_Clue_impl_Clue_impl_solutions_1.k ?_ _ _ _ | with_reducible intro _ | omega
theorem k {n K : Nat} (h : n + 8 ≤ K) (a0 : List (Int × (Int × Int))) : Le (f n a0) (p K a0) := by
 obtain ⟨K, rfl⟩ := pos_of_le (show 0 + 1 ≤ K by omega)
 have kl := kl n K (by omega)
 rw [e]
 unfold f b
 repeat' first | with_reducible apply Le.bind | with_reducible apply Le.ite | with_reducible exact Le.rfl | with_reducible refine kl.1 _ ?_ _ _ _ | with_reducible refine kl.2 _ ?_ _ ?_ _ _ _ _ | with_reducible intro _ | omega
end impl_solutions
namespace slices_Clone_impl_Clue_impl_Clue
noncomputable def p (K : Nat) (a0 : List (Int × (Int × Int))) : Option (List (Int × (Int × Int))) := PI Cx K 47 [.sv (.one (.sl 28 (.pair (.int .i64) (.pair (.int .i64) (.int .i64))) a0))]
noncomputable def f (a0 : List (Int × (Int × Int))) : Option (List (Int × (Int × Int))) := if a0.length ≤ 5864062014805 then some a0 else none
theorem e (K : Nat) (a0 : List (Int × (Int × Int))) : p (K + 1) a0 = f a0 := by kernel_rfl
theorem k {K : Nat} (h : 1 ≤ K) (a0 : List (Int × (Int × Int))) : Le (f a0) (p K a0) := by
 obtain ⟨K, rfl⟩ := pos_of_le h
 rw [e]
 exact Le.rfl
end slices_Clone_impl_Clue_impl_Clue
namespace impl_withoutClue
noncomputable def p (K : Nat) (a0 : List (Int × (Int × Int))) (a1 : Int) : Option (List (Int × (Int × Int))) := PI Cx K 48 [.sv (.one (.sl 28 (.pair (.int .i64) (.pair (.int .i64) (.int .i64))) a0)), .sv (.one (.int .i64 a1))]
noncomputable def b (g0 : List (Int × (Int × Int)) → Option (List (Int × (Int × Int)))) (a0 : List (Int × (Int × Int))) (a1 : Int) : Option (List (Int × (Int × Int))) :=
 (g0 a0).bind fun t0 =>
 if 0 ≤ a1 then (if a1 < (dlen t0) then (if (wrap64 (a1 + 1)) = (a1 + 1) then (if (dlen t0) ≤ 5000000000000 then (some ((List.take (Int.toNat a1) t0) ++ (List.drop (Int.toNat (wrap64 (a1 + 1))) t0))) else (none)) else (none)) else (none)) else (none)
noncomputable def f (a0 : List (Int × (Int × Int))) (a1 : Int) : Option (List (Int × (Int × Int))) := b slices_Clone_impl_Clue_impl_Clue.f a0 a1
theorem e (K : Nat) (a0 : List (Int × (Int × Int))) (a1 : Int) : p (K + 1) a0 a1 = b (slices_Clone_impl_Clue_impl_Clue.p K) a0 a1 := by kernel_rfl
theorem k {K : Nat} (h : 2 ≤ K) (a0 : List (Int × (Int × Int))) (a1 : Int) : Le (f a0 a1) (p K a0 a1) := by
 obtain ⟨K, rfl⟩ := pos_of_le (show 0 + 1 ≤ K by omega)
 rw [e]
 unfold f b
 repeat' first | with_reducible apply Le.bind | with_reducible apply Le.ite | with_reducible exact Le.rfl | with_reducible refine slices_Clone_impl_Clue_impl_Clue.k ?_ _ | with_reducible intro _ | omega
end impl_withoutClue
namespace impl_HarderPuzzle
noncomputable def p (K : Nat) (a0 : List (Int × (Int × Int))) : Option ((List (Int × (Int × Int))) × Bool) := PI Cx K 12 [.sv (.agg [.sl 28 (.pair (.int .i64) (.pair (.int .i64) (.int .i64))) a0])]
noncomputable def q0 (K m : Nat) (x0 : List (Int × (Int × Int))) (x1 : Int) : Option ((List (Int × (Int × Int))) × Bool) := loopAt Cx K 12 [true, true, true, false, true, true] [] m ⟨[(2, .sv (.one (.ptr 1000 0))), (4, .sv (.one (.sl 28 (.pair (.int .i64) (.pair (.int .i64) (.int .i64))) x0))), (5, .sv (.one (.int .i64 x1)))], [(1000, .box 26 [.nilsl])], []⟩
noncomputable def b (L0 : List (Int × (Int × Int)) → Int → Option ((List (Int × (Int × Int))) × Bool)) (g0 : List (Int × (Int × Int)) → Option Bool) (g1 : List (Int × (Int × Int)) → Option (List (Int × Int))) (g2 : List (Int × (Int × Int)) → Option (List (Int × (Int × Int)))) (a0 : List (Int × (Int × Int))) : Option ((List (Int × (Int × Int))) × Bool) :=
 (g0 a0).bind fun t0 =>
 if (!t0) = true then (some (([] : List (Int × (Int × Int))), false)) else ((g1 a0).bind fun t1 =>
 if ((dlen t1) != 1) = true then (some (([] : List (Int × (Int × Int))), false)) else ((g2 a0).bind fun t2 =>
 L0 t2 0))
noncomputable def b0 (L0 : List (Int × (Int × Int)) → Int → Option ((List (Int × (Int × Int))) × Bool)) (g3 : List (Int × (Int × Int)) → Int → Option (List (Int × (Int × Int)))) (g1 : List (Int × (Int × Int)) → Option (List (Int × Int))) (x0 : List (Int × (Int × Int))) (x1 : Int) : Option ((List (Int × (Int × Int))) × Bool) :=
 if (decide (x1 < (dlen x0))) = true then ((g3 x0 x1).bind fun t0 =>
 (g1 t0).bind fun t1 =>
 if ((dlen t1) == 1) = true then (L0 t0 x1) else (L0 x0 (wrap64 (x1 + 1)))) else (some (x0, true))
noncomputable def l0 : Nat → List (Int × (Int × Int)) → Int → Option ((List (Int × (Int × Int))) × Bool)
 | 0, _, _ => none
 | k + 1, x0, x1 => b0 (l0 k) impl_withoutClue.f (impl_solutions.f k) x0 x1
noncomputable def f (k : Nat) (a0 : List (Int × (Int × Int))) : Option ((List (Int × (Int × Int))) × Bool) := b (l0 k) (impl_IsPuzzle.f k) (impl_solutions.f k) slices_Clone_impl_Clue_impl_Clue.f a0
theorem e (K : Nat) (a0 : List (Int × (Int × Int))) : p (K + 1) a0 = b (q0 K K) (impl_IsPuzzle.p K) (impl_solutions.p K) (slices_Clone_impl_Clue_impl_Clue.p K) a0 := by kernel_rfl
theorem e0 (K m : Nat) (x0 : List (Int × (Int × Int))) (x1 : Int) : q0 K (m + 1) x0 x1 = b0 (q0 K m) (impl_withoutClue.p K) (impl_solutions.p K) x0 x1 := by kernel_rfl
theorem kl (n : Nat) : ∀ K, n + 8 ≤ K → (∀ m, n ≤ m → ∀ (x0 : List (Int × (Int × Int))) (x1 : Int), Le (l0 n x0 x1) (q0 K m x0 x1)) := by
 induction n with
 | zero => exact fun K _ => fun _ _ _ _ => Le.none
 | succ n ih =>
  intro K hK
  have ih := ih K (by omega)
  intro m hm x0 x1
  obtain ⟨m, rfl⟩ := pos_of_le hm
  rw [e0]
  show Le (b0 (l0 n) impl_withoutClue.f (impl_solutions.f n) x0 x1) _
  unfold b0
  repeat' first | with_reducible apply Le.bind | with_reducible apply Le.ite | with_reducible exact Le.rfl | with_reducible refine ih _ ?_ _ _ | with_reducible refine impl_withoutClue.k ?_ _ _ | with_reducible refine impl_solutions.k ?_ _ | with_reducible intro _ | omega
theorem k {n K : Nat} (h : n + 9 ≤ K) (a0 : List (Int × (Int × Int))) : Le (f n a0) (p K a0) := by
 obtain ⟨K, rfl⟩ := pos_of_le (show 0 + 1 ≤ K by omega)
 have kl := kl n K (by omega)
 rw [e]
 unfold f b
 repeat' first | with_reducible apply Le.bind | with_reducible apply Le.ite | with_reducible exact Le.rfl | with_reducible refine kl _ ?_ _ _ | with_reducible refine impl_IsPuzzle.k ?_ _ | with_reducible refine impl_solutions.k ?_ _ | with_reducible refine slices_Clone_impl_Clue_impl_Clue.k ?_ _ | with_reducible intro _ | omega
end impl_HarderPuzzle
namespace spec_pzClue
noncomputable def p (K : Nat) (a0 a1 a2 : Int) : Option Bool := PI Cx K 52 [.sv (.agg [.int .i64 a0, .int .i64 a1, .int .i64 a2])]
noncomputable def b (g0 : Int → Int → Int → Option Bool) (a0 a1 a2 : Int) : Option Bool :=
 if (a0 == 0) = true then ((g0 a1 1 100).bind fun t0 =>
 if t0 = true then ((g0 a2 0 100).bind fun t1 =>
 some t1) else (some false)) else (if (a0 == 1) = true then ((g0 a1 1 100).bind fun t0 =>
 if t0 = true then ((g0 a2 1 100).bind fun t1 =>
 some t1) else (some false)) else (if (a0 == 2) = true then (if (a1 == 0) = true then ((g0 a2 0 24).bind fun t0 =>
 some t0) else (some false)) else (if (a0 == 3) = true then ((g0 a1 2 9).bind fun t0 =>
 if t0 = true then ((g0 a2 0 1).bind fun t1 =>
 some t1) else (some false)) else (if (a0 == 4) = true then (if (a1 == 0) = true then ((g0 a2 (-12) 12).bind fun t0 =>
 some t0) else (some false)) else (some false)))))
noncomputable def f (a0 a1 a2 : Int) : Option Bool := b spec_l1In.f a0 a1 a2
theorem e (K : Nat) (a0 a1 a2 : Int) : p (K + 1) a0 a1 a2 = b (spec_l1In.p K) a0 a1 a2 := by kernel_rfl
theorem k {K : Nat} (h : 2 ≤ K) (a0 a1 a2 : Int) : Le (f a0 a1 a2) (p K a0 a1 a2) := by
 obtain ⟨K, rfl⟩ := pos_of_le (show 0 + 1 ≤ K by omega)
 rw [e]
 unfold f b
 repeat' first | with_reducible apply Le.bind | with_reducible apply Le.ite | with_reducible exact Le.rfl | with_reducible refine spec_l1In.k ?_ _ _ _ | with_reducible intro _ | omega
end spec_pzClue
namespace spec_pzGood
noncomputable def p (K : Nat) (a0 : List (Int × (Int × Int))) : Option Bool := PI Cx K 49 [.sv (.agg [.sl 28 (.pair (.int .i64) (.pair (.int .i64) (.int .i64))) a0])]
noncomputable def q0 (K m : Nat) (x0 : List (Int × (Int × Int))) (x1 x2 : Int) : Option Bool := loopAt Cx K 49 [true, true, false, true, true] [] m ⟨[(10, .sv (.one (.sl 28 (.pair (.int .i64) (.pair (.int .i64) (.int .i64))) x0))), (11, .sv (.one (.int .i64 x1))), (12, .sv (.one (.int .i64 x2)))], [], []⟩
noncomputable def b (L0 : List (Int × (Int × Int)) → Int → Int → Option Bool) (a0 : List (Int × (Int × Int))) : Option Bool :=
 if (decide ((dlen a0) > 6)) = true then (some false) else (L0 a0 (dlen a0) 0)
noncomputable def b0 (L0 : List (Int × (Int × Int)) → Int → Int → Option Bool) (g0 : Int → Int → Int → Option Bool) (x0 : List (Int × (Int × Int))) (x1 x2 : Int) : Option Bool :=
 if (decide (x2 < x1)) = true then (if 0 ≤ x2 then (if x2 < (dlen x0) then ((g0 (rd (0, (0, 0)) x0 x2).1 (rd (0, (0, 0)) x0 x2).2.1 (rd (0, (0, 0)) x0 x2).2.2).bind fun t0 =>
 if (!t0) = true then (some false) else (L0 x0 x1 (wrap64 (x2 + 1)))) else (none)) else (none)) else (some true)
noncomputable def l0 : Nat → List (Int × (Int × Int)) → Int → Int → Option Bool
 | 0, _, _, _ => none
 | k + 1, x0, x1, x2 => b0 (l0 k) spec_pzClue.f x0 x1 x2
noncomputable def f (k : Nat) (a0 : List (Int × (Int × Int))) : Option Bool := b (l0 k) a0
theorem e (K : Nat) (a0 : List (Int × (Int × Int))) : p (K + 1) a0 = b (q0 K K) a0 := by kernel_rfl
theorem e0 (K m : Nat) (x0 : List (Int × (Int × Int))) (x1 x2 : Int) : q0 K (m + 1) x0 x1 x2 = b0 (q0 K m) (spec_pzClue.p K) x0 x1 x2 := by kernel_rfl
theorem kl (n : Nat) : ∀ K, n + 2 ≤ K → (∀ m, n ≤ m → ∀ (x0 : List (Int × (Int × Int))) (x1 x2 : Int), Le (l0 n x0 x1 x2) (q0 K m x0 x1 x2)) := by
 induction n with
 | zero => exact fun K _ => fun _ _ _ _ _ => Le.none
 | succ n ih =>
  intro K hK
  have ih := ih K (by omega)
  intro m hm x0 x1 x2
  obtain ⟨m, rfl⟩ := pos_of_le hm
  rw [e0]
  show Le (b0 (l0 n) spec_pzClue.f x0 x1 x2) _
  unfold b0
  repeat' first | with_reducible apply Le.bind | with_reducible apply Le.ite | with_reducible exact Le.rfl | with_reducible refine ih _ ?_ _ _ _ | with_reducible refine spec_pzClue.k ?_ _ _ _ | with_reducible intro _ | omega
theorem k {n K : Nat} (h : n + 3 ≤ K) (a0 : List (Int × (Int × Int))) : Le (f n a0) (p K a0) := by
 obtain ⟨K, rfl⟩ := pos_of_le (show 0 + 1 ≤ K by omega)
 have kl := kl n K (by omega)
 rw [e]
 unfold f b
 repeat' first | with_reducible apply Le.bind | with_reducible apply Le.ite | with_reducible exact Le.rfl | with_reducible refine kl _ ?_ _ _ _ | with_reducible intro _ | omega
end spec_pzGood
namespace spec_pzFits
noncomputable def p (K : Nat) (a0 a1 a2 a3 a4 : Int) : Option Bool := PI Cx K 53 [.sv (.agg [.int .i64 a0, .int .i64 a1, .int .i64 a2]), .sv (.agg [.int .i64 a3, .int .i64 a4])]
noncomputable def b (g0 : Int → Int → Int → Int → Option Int) (a0 a1 a2 a3 a4 : Int) : Option Bool :=
 (g0 a0 a1 a3 a4).bind fun t0 =>
 some (t0 == a2)
noncomputable def f (a0 a1 a2 a3 a4 : Int) : Option Bool := b spec_pzValue.f a0 a1 a2 a3 a4
theorem e (K : Nat) (a0 a1 a2 a3 a4 : Int) : p (K + 1) a0 a1 a2 a3 a4 = b (spec_pzValue.p K) a0 a1 a2 a3 a4 := by kernel_rfl
theorem k {K : Nat} (h : 3 ≤ K) (a0 a1 a2 a3 a4 : Int) : Le (f a0 a1 a2 a3 a4) (p K a0 a1 a2 a3 a4) := by
 obtain ⟨K, rfl⟩ := pos_of_le (show 0 + 1 ≤ K by omega)
 rw [e]
 unfold f b
 repeat' first | with_reducible apply Le.bind | with_reducible apply Le.ite | with_reducible exact Le.rfl | with_reducible refine spec_pzValue.k ?_ _ _ _ _ | with_reducible intro _ | omega
end spec_pzFits
namespace spec_pzAll
noncomputable def p (K : Nat) (a0 : List (Int × (Int × Int))) : Option (List (Int × Int)) := PI Cx K 68 [.sv (.one (.sl 28 (.pair (.int .i64) (.pair (.int .i64) (.int .i64))) a0))]
noncomputable def q0 (K m : Nat) (x0 : List (Int × (Int × Int))) (x1 : Int) (x2 : List (Int × Int)) : Option (List (Int × Int)) := loopAt Cx K 68 [true, true, false, true, true] [] m ⟨[(0, .sv (.one (.sl 28 (.pair (.int .i64) (.pair (.int .i64) (.int .i64))) x0))), (3, .sv (.one (.full 1000000003000))), (4, .sv (.one (.int .i64 x1)))], [(1000000003000, .row 23 (.pair (.int .i64) (.int .i64)) x2 .own)], []⟩
noncomputable def q1 (K m0 m : Nat) (x0 : List (Int × (Int × Int))) (x1 x2 : Int) (x3 : List (Int × Int)) : Option (List (Int × Int)) := loopAt Cx K 68 [true, true, false, true, true, true, true, false, true, true, true] [m0] m ⟨[(0, .sv (.one (.sl 28 (.pair (.int .i64) (.pair (.int .i64) (.int .i64))) x0))), (3, .sv (.one (.full 1000000003000))), (4, .sv (.one (.int .i64 x1))), (5, .sv (.one (.int .i64 x2)))], [(1000000003000, .row 23 (.pair (.int .i64) (.int .i64)) x3 .own)], []⟩
noncomputable def q2 (K m0 m1 m : Nat) (x0 : List (Int × (Int × Int))) (x1 x2 : Int) (x3 : Bool) (x4 : List (Int × (Int × Int))) (x5 x6 : Int) (x7 : List (Int × Int)) (x8 x9 : Int) : Option (List (Int × Int)) := loopAt Cx K 68 [true, true, false, true, true, true, true, false, true, true, true, true, true, false, true, true, true, false, true, true] [m0, m1] m ⟨[(0, .sv (.one (.sl 28 (.pair (.int .i64) (.pair (.int .i64) (.int .i64))) x0))), (3, .sv (.one (.full 1000000003000))), (4, .sv (.one (.int .i64 x1))), (5, .sv (.one (.int .i64 x2))), (6, .sv (.one (.ptr 8003000 0))), (7, .sv (.one (.bool x3))), (21, .sv (.one (.sl 28 (.pair (.int .i64) (.pair (.int .i64) (.int .i64))) x4))), (22, .sv (.one (.int .i64 x5))), (23, .sv (.one (.int .i64 x6)))], [(1000000003000, .row 23 (.pair (.int .i64) (.int .i64)) x7 .own), (8003000, .box 23 [.int .i64 x8, .int .i64 x9])], []⟩
noncomputable def b (L0 : List (Int × (Int × Int)) → Int → List (Int × Int) → Option (List (Int × Int))) (a0 : List (Int × (Int × Int))) : Option (List (Int × Int)) :=
 L0 a0 1 ([] : List (Int × Int))
noncomputable def b0 (L1 : List (Int × (Int × Int)) → Int → Int → List (Int × Int) → Option (List (Int × Int))) (x0 : List (Int × (Int × Int))) (x1 : Int) (x2 : List (Int × Int)) : Option (List (Int × Int)) :=
 if (decide (x1 ≤ 12)) = true then (L1 x0 x1 0 x2) else (some x2)
noncomputable def b1 (L2 : List (Int × (Int × Int)) → Int → Int → Bool → List (Int × (Int × Int)) → Int → Int → List (Int × Int) → Int → Int → Option (List (Int × Int))) (L0 : List (Int × (Int × Int)) → Int → List (Int × Int) → Option (List (Int × Int))) (x0 : List (Int × (Int × Int))) (x1 x2 : Int) (x3 : List (Int × Int)) : Option (List (Int × Int)) :=
 if (decide (x2 ≤ 12)) = true then (L2 x0 x1 x2 true x0 (dlen x0) 0 x3 x1 x2) else (L0 x0 (wrap64 (x1 + 1)) x3)
noncomputable def b2 (L2 : List (Int × (Int × Int)) → Int → Int → Bool → List (Int × (Int × Int)) → Int → Int → List (Int × Int) → Int → Int → Option (List (Int × Int))) (L1 : List (Int × (Int × Int)) → Int → Int → List (Int × Int) → Option (List (Int × Int))) (g0 : Int → Int → Int → Int → Int → Option Bool) (x0 : List (Int × (Int × Int))) (x1 x2 : Int) (x3 : Bool) (x4 : List (Int × (Int × Int))) (x5 x6 : Int) (x7 : List (Int × Int)) (x8 x9 : Int) : Option (List (Int × Int)) :=
 if (decide (x6 < x5)) = true then (if 0 ≤ x6 then (if x6 < (dlen x4) then (if x3 = true then ((g0 (rd (0, (0, 0)) x4 x6).1 (rd (0, (0, 0)) x4 x6).2.1 (rd (0, (0, 0)) x4 x6).2.2 x8 x9).bind fun t0 =>
 L2 x0 x1 x2 t0 x4 x5 (wrap64 (x6 + 1)) x7 x8 x9) else (L2 x0 x1 x2 false x4 x5 (wrap64 (x6 + 1)) x7 x8 x9)) else (none)) else (none)) else (if x3 = true then (if ((dlenN x7) + 1) ≤ 8796093022208 then (L1 x0 x1 (wrap64 (x2 + 1)) (x7 ++ [(x8, x9)])) else (none)) else (L1 x0 x1 (wrap64 (x2 + 1)) x7))
mutual
noncomputable def l0 : Nat → List (Int × (Int × Int)) → Int → List (Int × Int) → Option (List (Int × Int))
 | 0, _, _, _ => none
 | k + 1, x0, x1, x2 => b0 (l1 k) x0 x1 x2
noncomputable def l1 : Nat → List (Int × (Int × Int)) → Int → Int → List (Int × Int) → Option (List (Int × Int))
 | 0, _, _, _, _ => none
 | k + 1, x0, x1, x2, x3 => b1 (l2 k) (l0 k) x0 x1 x2 x3
noncomputable def l2 : Nat → List (Int × (Int × Int)) → Int → Int → Bool → List (Int × (Int × Int)) → Int → Int → List (Int × Int) → Int → Int → Option (List (Int × Int))
 | 0, _, _, _, _, _, _, _, _, _, _ => none
 | k + 1, x0, x1, x2, x3, x4, x5, x6, x7, x8, x9 => b2 (l2 k) (l1 k) spec_pzFits.f x0 x1 x2 x3 x4 x5 x6 x7 x8 x9
end
noncomputable def f (k : Nat) (a0 : List (Int × (Int × Int))) : Option (List (Int × Int)) := b (l0 k) a0
theorem e (K : Nat) (a0 : List (Int × (Int × Int))) : p (K + 1) a0 = b (q0 K K) a0 := by kernel_rfl
theorem e0 (K m : Nat) (x0 : List (Int × (Int × Int))) (x1 : Int) (x2 : List (Int × Int)) : q0 K (m + 1) x0 x1 x2 = b0 (q1 K m K) x0 x1 x2 := by kernel_rfl
theorem e1 (K m0 m : Nat) (x0 : List (Int × (Int × Int))) (x1 x2 : Int) (x3 : List (Int × Int)) : q1 K m0 (m + 1) x0 x1 x2 x3 = b1 (q2 K m0 m K) (q0 K m0) x0 x1 x2 x3 := by kernel_rfl
theorem e2 (K m0 m1 m : Nat) (x0 : List (Int × (Int × Int))) (x1 x2 : Int) (x3 : Bool) (x4 : List (Int × (Int × Int))) (x5 x6 : Int) (x7 : List (Int × Int)) (x8 x9 : Int) : q2 K m0 m1 (m + 1) x0 x1 x2 x3 x4 x5 x6 x7 x8 x9 = b2 (q2 K m0 m1 m) (q1 K m0 m1) (spec_pzFits.p K) x0 x1 x2 x3 x4 x5 x6 x7 x8 x9 := by kernel_rfl
theorem kl (n : Nat) : ∀ K, n + 3 ≤ K → (∀ m, n ≤ m → ∀ (x0 : List (Int × (Int × Int))) (x1 : Int) (x2 : List (Int × Int)), Le (l0 n x0 x1 x2) (q0 K m x0 x1 x2)) ∧ (∀ m0, n ≤ m0 → ∀ m, n ≤ m → ∀ (x0 : List (Int × (Int × Int))) (x1 x2 : Int) (x3 : List (Int × Int)), Le (l1 n x0 x1 x2 x3) (q1 K m0 m x0 x1 x2 x3)) ∧ (∀ m0, n ≤ m0 → ∀ m1, n ≤ m1 → ∀ m, n ≤ m → ∀ (x0 : List (Int × (Int × Int))) (x1 x2 : Int) (x3 : Bool) (x4 : List (Int × (Int × Int))) (x5 x6 : Int) (x7 : List (Int × Int)) (x8 x9 : Int), Le (l2 n x0 x1 x2 x3 x4 x5 x6 x7 x8 x9) (q2 K m0 m1 m x0 x1 x2 x3 x4 x5 x6 x7 x8 x9)) := by
 induction n with
 | zero => exact fun K _ => ⟨fun _ _ _ _ _ => Le.none, fun _ _ _ _ _ _ _ _ => Le.none, fun _ _ _ _ _ _ _ _ _ _ _ _ _ _ _ _ => Le.none⟩
 | succ n ih =>
  intro K hK
  have ih := ih K (by omega)
  refine ⟨?_, ?_, ?_⟩
  · intro m hm x0 x1 x2
    obtain ⟨m, rfl⟩ := pos_of_le hm
    rw [e0]
    show Le (b0 (l1 n) x0 x1 x2) _
    unfold b0
    repeat' first | with_reducible apply Le.bind | with_reducible apply Le.ite | with_reducible exact Le.rfl | with_reducible refine ih.1 _ ?_ _ _ _ | with_reducible refine ih.2.1 _ ?_ _ ?_ _ _ _ _ | with_reducible refine ih.2.2 _ ?_ _ ?_ _ ?_ _ _ _ _ _ _ _ _ _ _ | with_reducible intro _ | omega
  · intro m0 h0 m hm x0 x1 x2 x3
    obtain ⟨m, rfl⟩ := pos_of_le hm
    rw [e1]
    show Le (b1 (l2 n) (l0 n) x0 x1 x2 x3) _
    unfold b1
    repeat' first | with_reducible apply Le.bind | with_reducible apply Le.ite | with_reducible exact Le.rfl | with_reducible refine ih.1 _ ?_ _ _ _ | with_reducible refine ih.2.1 _ ?_ _ ?_ _ _ _ _ | with_reducible refine ih.2.2 _ ?_ _ ?_ _ ?_ _ _ _ _ _ _ _ _ _ _ | with_reducible intro _ | omega
  · intro m0 h0 m1 h1 m hm x0 x1 x2 x3 x4 x5 x6 x7 x8 x9
    obtain ⟨m, rfl⟩ := pos_of_le hm
    rw [e2]
    show Le (b2 (l2 n) (l1 n) spec_pzFits.f x0 x1 x2 x3 x4 x5 x6 x7 x8 x9) _
    unfold b2
    repeat' first | with_reducible apply Le.bind | with_reducible apply Le.ite | with_reducible exact Le.rfl | with_reducible refine ih.1 _ ?_ _ _ _ | with_reducible refine ih.2.1 _ ?_ _ ?_ _ _ _ _ | with_reducible refine ih.2.2 _ ?_ _ ?_ _ ?_ _ _ _ _ _ _ _ _ _ _ | with_reducible refine spec_pzFits.k ?_ _ _ _ _ _ | with_reducible intro _ | omega
theorem k {n K : Nat} (h : n + 4 ≤ K) (a0 : List (Int × (Int × Int))) : Le (f n a0) (p K a0) := by
 obtain ⟨K, rfl⟩ := pos_of_le (show 0 + 1 ≤ K by omega)
 have kl := kl n K (by omega)
 rw [e]
 unfold f b
 repeat' first | with_reducible apply Le.bind | with_reducible apply Le.ite | with_reducible exact Le.rfl | with_reducible refine kl.1 _ ?_ _ _ _ | with_reducible refine kl.2.1 _ ?_ _ ?_ _ _ _ _ | with_reducible refine kl.2.2 _ ?_ _ ?_ _ ?_ _ _ _ _ _ _ _ _ _ _ | with_reducible intro _ | omega
end spec_pzAll
namespace spec_pzSolved
noncomputable def p (K : Nat) (a0 : List (Int × (Int × Int))) : Option Bool := PI Cx K 50 [.sv (.one (.sl 28 (.pair (.int .i64) (.pair (.int .i64) (.int .i64))) a0))]
noncomputable def b (g0 : List (Int × (Int × Int)) → Option (List (Int × Int))) (a0 : List (Int × (Int × Int))) : Option Bool :=
 (g0 a0).bind fun t0 =>
 some ((dlen t0) == 1)
noncomputable def f (k : Nat) (a0 : List (Int × (Int × Int))) : Option Bool := b (spec_pzAll.f k) a0
theorem e (K : Nat) (a0 : List (Int × (Int × Int))) : p (K + 1) a0 = b (spec_pzAll.p K) a0 := by kernel_rfl
theorem k {n K : Nat} (h : n + 5 ≤ K) (a0 : List (Int × (Int × Int))) : Le (f n a0) (p K a0) := by
 obtain ⟨K, rfl⟩ := pos_of_le (show 0 + 1 ≤ K by omega)
 rw [e]
 unfold f b
 repeat' first | with_reducible apply Le.bind | with_reducible apply Le.ite | with_reducible exact Le.rfl | with_reducible refine spec_pzAll.k ?_ _ | with_reducible intro _ | omega
end spec_pzSolved
namespace spec_pzWithout
noncomputable def p (K : Nat) (a0 : List (Int × (Int × Int))) (a1 : Int) : Option (List (Int × (Int × Int))) := PI Cx K 51 [.sv (.one (.sl 28 (.pair (.int .i64) (.pair (.int .i64) (.int .i64))) a0)), .sv (.one (.int .i64 a1))]
noncomputable def f (a0 : List (Int × (Int × Int))) (a1 : Int) : Option (List (Int × (Int × Int))) :=
 if 0 ≤ a1 then (if a1 ≤ (dlen a0) then (if (0 + (dlenN (List.take (Int.toNat a1) a0))) ≤ 5864062014805 then (if 0 ≤ (wrap64 (a1 + 1)) then (if (wrap64 (a1 + 1)) ≤ (dlen a0) then (if ((dlenN (([] : List (Int × (Int × Int))) ++ (List.take (Int.toNat a1) a0))) + (dlenN (List.drop (Int.toNat (wrap64 (a1 + 1))) a0))) ≤ 5864062014805 then (some ((([] : List (Int × (Int × Int))) ++ (List.take (Int.toNat a1) a0)) ++ (List.drop (Int.toNat (wrap64 (a1 + 1))) a0))) else (none)) else (none)) else (none)) else (none)) else (none)) else (none)
theorem e (K : Nat) (a0 : List (Int × (Int × Int))) (a1 : Int) : p (K + 1) a0 a1 = f a0 a1 := by kernel_rfl
theorem k {K : Nat} (h : 1 ≤ K) (a0 : List (Int × (Int × Int))) (a1 : Int) : Le (f a0 a1) (p K a0 a1) := by
 obtain ⟨K, rfl⟩ := pos_of_le h
 rw [e]
 exact Le.rfl
end spec_pzWithout
namespace spec_HarderPuzzle
noncomputable def p (K : Nat) (a0 : List (Int × (Int × Int))) : Option ((List (Int × (Int × Int))) × Bool) := PI Cx K 13 [.sv (.agg [.sl 28 (.pair (.int .i64) (.pair (.int .i64) (.int .i64))) a0])]
noncomputable def q0 (K m : Nat) (x0 : List (Int × (Int × Int))) (x1 : Int) : Option ((List (Int × (Int × Int))) × Bool) := loopAt Cx K 13 [true, true, true, false, true, true] [] m ⟨[(2, .sv (.one (.ptr 1000 0))), (4, .sv (.one (.sl 28 (.pair (.int .i64) (.pair (.int .i64) (.int .i64))) x0))), (5, .sv (.one (.int .i64 x1)))], [(1000, .box 26 [.nilsl])], []⟩
noncomputable def b (L0 : List (Int × (Int × Int)) → Int → Option ((List (Int × (Int × Int))) × Bool)) (g0 : List (Int × (Int × Int)) → Option Bool) (g1 : List (Int × (Int × Int)) → Option Bool) (a0 : List (Int × (Int × Int))) : Option ((List (Int × (Int × Int))) × Bool) :=
 (g0 a0).bind fun t0 =>
 if (!t0) = true then (some (([] : List (Int × (Int × Int))), false)) else ((g1 a0).bind fun t1 =>
 if (!t1) = true then (some (([] : List (Int × (Int × Int))), false)) else (if (0 + (dlenN a0)) ≤ 5864062014805 then (L0 (([] : List (Int × (Int × Int))) ++ a0) 0) else (none)))
noncomputable def b0 (L0 : List (Int × (Int × Int)) → Int → Option ((List (Int × (Int × Int))) × Bool)) (g2 : List (Int × (Int × Int)) → Int → Option (List (Int × (Int × Int)))) (g1 : List (Int × (Int × Int)) → Option Bool) (x0 : List (Int × (Int × Int))) (x1 : Int) : Option ((List (Int × (Int × Int))) × Bool) :=
 if (decide (x1 < (dlen x0))) = true then ((g2 x0 x1).bind fun t0 =>
 (g1 t0).bind fun t1 =>
 if t1 = true then (L0 t0 x1) else (L0 x0 (wrap64 (x1 + 1)))) else (some (x0, true))
noncomputable def l0 : Nat → List (Int × (Int × Int)) → Int → Option ((List (Int × (Int × Int))) × Bool)
 | 0, _, _ => none
 | k + 1, x0, x1 => b0 (l0 k) spec_pzWithout.f (spec_pzSolved.f k) x0 x1
noncomputable def f (k : Nat) (a0 : List (Int × (Int × Int))) : Option ((List (Int × (Int × Int))) × Bool) := b (l0 k) (spec_pzGood.f k) (spec_pzSolved.f k) a0
theorem e (K : Nat) (a0 : List (Int × (Int × Int))) : p (K + 1) a0 = b (q0 K K) (spec_pzGood.p K) (spec_pzSolved.p K) a0 := by kernel_rfl
theorem e0 (K m : Nat) (x0 : List (Int × (Int × Int))) (x1 : Int) : q0 K (m + 1) x0 x1 = b0 (q0 K m) (spec_pzWithout.p K) (spec_pzSolved.p K) x0 x1 := by kernel_rfl
theorem kl (n : Nat) : ∀ K, n + 5 ≤ K → (∀ m, n ≤ m → ∀ (x0 : List (Int × (Int × Int))) (x1 : Int), Le (l0 n x0 x1) (q0 K m x0 x1)) := by
 induction n with
 | zero => exact fun K _ => fun _ _ _ _ => Le.none
 | succ n ih =>
  intro K hK
  have ih := ih K (by omega)
  intro m hm x0 x1
  obtain ⟨m, rfl⟩ := pos_of_le hm
  rw [e0]
  show Le (b0 (l0 n) spec_pzWithout.f (spec_pzSolved.f n) x0 x1) _
  unfold b0
  repeat' first | with_reducible apply Le.bind | with_reducible apply Le.ite | with_reducible exact Le.rfl | with_reducible refine ih _ ?_ _ _ | with_reducible refine spec_pzWithout.k ?_ _ _ | with_reducible refine spec_pzSolved.k ?_ _ | with_reducible intro _ | omega
theorem k {n K : Nat} (h : n + 6 ≤ K) (a0 : List (Int × (Int × Int))) : Le (f n a0) (p K a0) := by
 obtain ⟨K, rfl⟩ := pos_of_le (show 0 + 1 ≤ K by omega)
 have kl := kl n K (by omega)
 rw [e]
 unfold f b
 repeat' first | with_reducible apply Le.bind | with_reducible apply Le.ite | with_reducible exact Le.rfl | with_reducible refine kl _ ?_ _ _ | with_reducible refine spec_pzGood.k ?_ _ | with_reducible refine spec_pzSolved.k ?_ _ | with_reducible intro _ | omega
end spec_HarderPuzzle
namespace impl_IsSolved
noncomputable def p (K : Nat) (a0 : List (Int × (Int × Int))) : Option (Bool × Bool) := PI Cx K 14 [.sv (.agg [.sl 28 (.pair (.int .i64) (.pair (.int .i64) (.int .i64))) a0])]
noncomputable def b (g0 : List (Int × (Int × Int)) → Option Bool) (g1 : List (Int × (Int × Int)) → Option (List (Int × Int))) (a0 : List (Int × (Int × Int))) : Option (Bool × Bool) :=
 (g0 a0).bind fun t0 =>
 if (!t0) = true then (some (false, false)) else ((g1 a0).bind fun t1 =>
 some (((dlen t1) == 1), true))
noncomputable def f (k : Nat) (a0 : List (Int × (Int × Int))) : Option (Bool × Bool) := b (impl_IsPuzzle.f k) (impl_solutions.f k) a0
theorem e (K : Nat) (a0 : List (Int × (Int × Int))) : p (K + 1) a0 = b (impl_IsPuzzle.p K) (impl_solutions.p K) a0 := by kernel_rfl
theorem k {n K : Nat} (h : n + 9 ≤ K) (a0 : List (Int × (Int × Int))) : Le (f n a0) (p K a0) := by
 obtain ⟨K, rfl⟩ := pos_of_le (show 0 + 1 ≤ K by omega)
 rw [e]
 unfold f b
 repeat' first | with_reducible apply Le.bind | with_reducible apply Le.ite | with_reducible exact Le.rfl | with_reducible refine impl_IsPuzzle.k ?_ _ | with_reducible refine impl_solutions.k ?_ _ | with_reducible intro _ | omega
end impl_IsSolved
namespace impl_Solutions
noncomputable def p (K : Nat) (a0 : List (Int × (Int × Int))) : Option ((List (Int × Int)) × Bool) := PI Cx K 15 [.sv (.agg [.sl 28 (.pair (.int .i64) (.pair (.int .i64) (.int .i64))) a0])]
noncomputable def b (g0 : List (Int × (Int × Int)) → Option Bool) (g1 : List (Int × (Int × Int)) → Option (List (Int × Int))) (a0 : List (Int × (Int × Int))) : Option ((List (Int × Int)) × Bool) :=
 (g0 a0).bind fun t0 =>
 if (!t0) = true then (some (([] : List (Int × Int)), false)) else ((g1 a0).bind fun t1 =>
 some (t1, true))
noncomputable def f (k : Nat) (a0 : List (Int × (Int × Int))) : Option ((List (Int × Int)) × Bool) := b (impl_IsPuzzle.f k) (impl_solutions.f k) a0
theorem e (K : Nat) (a0 : List (Int × (Int × Int))) : p (K + 1) a0 = b (impl_IsPuzzle.p K) (impl_solutions.p K) a0 := by kernel_rfl
theorem k {n K : Nat} (h : n + 9 ≤ K) (a0 : List (Int × (Int × Int))) : Le (f n a0) (p K a0) := by
 obtain ⟨K, rfl⟩ := pos_of_le (show 0 + 1 ≤ K by omega)
 rw [e]
 unfold f b
 repeat' first | with_reducible apply Le.bind | with_reducible apply Le.ite | with_reducible exact Le.rfl | with_reducible refine impl_IsPuzzle.k ?_ _ | with_reducible refine impl_solutions.k ?_ _ | with_reducible intro _ | omega
end impl_Solutions
namespace impl_NeedlessClues
noncomputable def p (K : Nat) (a0 : List (Int × (Int × Int))) : Option ((List Int) × Bool) := PI Cx K 16 [.sv (.agg [.sl 28 (.pair (.int .i64) (.pair (.int .i64) (.int .i64))) a0])]
noncomputable def q0 (K m : Nat) (x0 x1 x2 : Int) (x3 : List (Int × (Int × Int))) (x4 : List Int) : Option ((List Int) × Bool) := loopAt Cx K 16 [true, true, true, true, false, true, true] [] m ⟨[(1, .sv (.one (.ptr 0 0))), (4, .sv (.one (.int .i64 x0))), (5, .sv (.one (.full 1000000005000))), (16, .sv (.one (.int .i64 x1))), (17, .sv (.one (.int .i64 x2)))], [(0, .box 26 [.sl 28 (.pair (.int .i64) (.pair (.int .i64) (.int .i64))) x3]), (1000000005000, .row 3 (.int .i64) x4 .own)], []⟩
noncomputable def b (L0 : Int → Int → Int → List (Int × (Int × Int)) → List Int → Option ((List Int) × Bool)) (g0 : List (Int × (Int × Int)) → Option Bool) (g1 : List (Int × (Int × Int)) → Option (List (Int × Int))) (a0 : List (Int × (Int × Int))) : Option ((List Int) × Bool) :=
 (g0 a0).bind fun t0 =>
 if (!t0) = true then (some (([] : List Int), false)) else ((g1 a0).bind fun t1 =>
 L0 (dlen t1) (dlen a0) 0 a0 ([] : List Int))
noncomputable def b0 (L0 : Int → Int → Int → List (Int × (Int × Int)) → List Int → Option ((List Int) × Bool)) (g2 : List (Int × (Int × Int)) → Int → Option (List (Int × (Int × Int)))) (g1 : List (Int × (Int × Int)) → Option (List (Int × Int))) (x0 x1 x2 : Int) (x3 : List (Int × (Int × Int))) (x4 : List Int) : Option ((List Int) × Bool) :=
 if (decide (x2 < x1)) = true then ((g2 x3 x2).bind fun t0 =>
 (g1 t0).bind fun t1 =>
 if ((dlen t1) == x0) = true then (if ((dlenN x4) + 1) ≤ 17592186044416 then (L0 x0 x1 (wrap64 (x2 + 1)) x3 (x4 ++ [x2])) else (none)) else (L0 x0 x1 (wrap64 (x2 + 1)) x3 x4)) else (some (x4, true))
noncomputable def l0 : Nat → Int → Int → Int → List (Int × (Int × Int)) → List Int → Option ((List Int) × Bool)
 | 0, _, _, _, _, _ => none
 | k + 1, x0, x1, x2, x3, x4 => b0 (l0 k) impl_withoutClue.f (impl_solutions.f k) x0 x1 x2 x3 x4
noncomputable def f (k : Nat) (a0 : List (Int × (Int × Int))) : Option ((List Int) × Bool) := b (l0 k) (impl_IsPuzzle.f k) (impl_solutions.f k) a0
theorem e (K : Nat) (a0 : List (Int × (Int × Int))) : p (K + 1) a0 = b (q0 K K) (impl_IsPuzzle.p K) (impl_solutions.p K) a0 := by kernel_rfl
theorem e0 (K m : Nat) (x0 x1 x2 : Int) (x3 : List (Int × (Int × Int))) (x4 : List Int) : q0 K (m + 1) x0 x1 x2 x3 x4 = b0 (q0 K m) (impl_withoutClue.p K) (impl_solutions.p K) x0 x1 x2 x3 x4 := by kernel_rfl
theorem kl (n : Nat) : ∀ K, n + 8 ≤ K → (∀ m, n ≤ m → ∀ (x0 x1 x2 : Int) (x3 : List (Int × (Int × Int))) (x4 : List Int), Le (l0 n x0 x1 x2 x3 x4) (q0 K m x0 x1 x2 x3 x4)) := by
 induction n with
 | zero => exact fun K _ => fun _ _ _ _ _ _ _ => Le.none
 | succ n ih =>
  intro K hK
  have ih := ih K (by omega)
  intro m hm x0 x1 x2 x3 x4
  obtain ⟨m, rfl⟩ := pos_of_le hm
  rw [e0]
  show Le (b0 (l0 n) impl_withoutClue.f (impl_solutions.f n) x0 x1 x2 x3 x4) _
  unfold b0
  repeat' first | with_reducible apply Le.bind | with_reducible apply Le.ite | with_reducible exact Le.rfl | with_reducible refine ih _ ?_ _ _ _ _ _ | with_reducible refine impl_withoutClue.k ?_ _ _ | with_reducible refine impl_solutions.k ?_ _ | with_reducible intro _ | omega
theorem k {n K : Nat} (h : n + 9 ≤ K) (a0 : List (Int × (Int × Int))) : Le (f n a0) (p K a0) := by
 obtain ⟨K, rfl⟩ := pos_of_le (show 0 + 1 ≤ K by omega)
 have kl := kl n K (by omega)
 rw [e]
 unfold f b
 repeat' first | with_reducible apply Le.bind | with_reducible apply Le.ite | with_reducible exact Le.rfl | with_reducible refine kl _ ?_ _ _ _ _ _ | with_reducible refine impl_IsPuzzle.k ?_ _ | with_reducible refine impl_solutions.k ?_ _ | with_reducible intro _ | omega
end impl_NeedlessClues
namespace laws_qSnails
noncomputable def p (K : Nat) (a0 a1 : List (Int × Int)) : Option Bool := PI Cx K 17 [.sv (.one (.sl 23 (.pair (.int .i64) (.int .i64)) a0)), .sv (.one (.sl 23 (.pair (.int .i64) (.int .i64)) a1))]
noncomputable def q0 (K m : Nat) (x0 x1 : List (Int × Int)) (x2 x3 : Int) : Option Bool := loopAt Cx K 17 [true, true, false, true, true] [] m ⟨[(0, .sv (.one (.sl 23 (.pair (.int .i64) (.int .i64)) x0))), (1, .sv (.one (.sl 23 (.pair (.int .i64) (.int .i64)) x1))), (12, .sv (.one (.int .i64 x2))), (13, .sv (.one (.int .i64 x3)))], [], []⟩
noncomputable def b (L0 : List (Int × Int) → List (Int × Int) → Int → Int → Option Bool) (a0 a1 : List (Int × Int)) : Option Bool :=
 if ((dlen a0) != (dlen a1)) = true then (some false) else (L0 a0 a1 (dlen a0) 0)
noncomputable def b0 (L0 : List (Int × Int) → List (Int × Int) → Int → Int → Option Bool) (x0 x1 : List (Int × Int)) (x2 x3 : Int) : Option Bool :=
 if (decide (x3 < x2)) = true then (if 0 ≤ x3 then (if x3 < (dlen x0) then (if 0 ≤ x3 then (if x3 < (dlen x1) then (if (!(((rd (0, 0) x0 x3).1 == (rd (0, 0) x1 x3).1) && ((rd (0, 0) x0 x3).2 == (rd (0, 0) x1 x3).2))) = true then (some false) else (L0 x0 x1 x2 (wrap64 (x3 + 1)))) else (none)) else (none)) else (none)) else (none)) else (some true)
noncomputable def l0 : Nat → List (Int × Int) → List (Int × Int) → Int → Int → Option Bool
 | 0, _, _, _, _ => none
 | k + 1, x0, x1, x2, x3 => b0 (l0 k) x0 x1 x2 x3
noncomputable def f (k : Nat) (a0 a1 : List (Int × Int)) : Option Bool := b (l0 k) a0 a1
theorem e (K : Nat) (a0 a1 : List (Int × Int)) : p (K + 1) a0 a1 = b (q0 K K) a0 a1 := by kernel_rfl
theorem e0 (K m : Nat) (x0 x1 : List (Int × Int)) (x2 x3 : Int) : q0 K (m + 1) x0 x1 x2 x3 = b0 (q0 K m) x0 x1 x2 x3 := by kernel_rfl
theorem kl (n : Nat) : ∀ K, n + 0 ≤ K → (∀ m, n ≤ m → ∀ (x0 x1 : List (Int × Int)) (x2 x3 : Int), Le (l0 n x0 x1 x2 x3) (q0 K m x0 x1 x2 x3)) := by
 induction n with
 | zero => exact fun K _ => fun _ _ _ _ _ _ => Le.none
 | succ n ih =>
  intro K hK
  have ih := ih K (by omega)
  intro m hm x0 x1 x2 x3
  obtain ⟨m, rfl⟩ := pos_of_le hm
  rw [e0]
  show Le (b0 (l0 n) x0 x1 x2 x3) _
  unfold b0
  repeat' first | with_reducible apply Le.bind | with_reducible apply Le.ite | with_reducible exact Le.rfl | with_reducible refine ih _ ?_ _ _ _ _ | with_reducible intro _ | omega
theorem k {n K : Nat} (h : n + 1 ≤ K) (a0 a1 : List (Int × Int)) : Le (f n a0 a1) (p K a0 a1) := by
 obtain ⟨K, rfl⟩ := pos_of_le (show 0 + 1 ≤ K by omega)
 have kl := kl n K (by omega)
 rw [e]
 unfold f b
 repeat' first | with_reducible apply Le.bind | with_reducible apply Le.ite | with_reducible exact Le.rfl | with_reducible refine kl _ ?_ _ _ _ _ | with_reducible intro _ | omega
end laws_qSnails
namespace spec_DrawAddClue
noncomputable def p (K : Nat) (a0 : List Int) : Option ((List (Int × (Int × Int))) × (Int × (Int × Int))) := PI Cx K 28 [.sv (.one (.sl 5 (.int .u8) a0))]
noncomputable def b (g0 : List Int → Int → Int → Option ((List (Int × (Int × Int))) × ((List Int) × (Int × Int)))) (g1 : List Int → Int → Int → Option ((Int × (Int × Int)) × ((List Int) × (Int × Int)))) (a0 : List Int) : Option ((List (Int × (Int × Int))) × (Int × (Int × Int))) :=
 (g0 a0 0 0).bind fun t0 =>
 (g1 t0.2.1 t0.2.2.1 t0.2.2.2).bind fun t1 =>
 some (t0.1, t1.1)
noncomputable def f (k : Nat) (a0 : List Int) : Option ((List (Int × (Int × Int))) × (Int × (Int × Int))) := b (spec_l1Cur_puzzle.f k) spec_l1Cur_clue.f a0
theorem e (K : Nat) (a0 : List Int) : p (K + 1) a0 = b (spec_l1Cur_puzzle.p K) (spec_l1Cur_clue.p K) a0 := by kernel_rfl
theorem k {n K : Nat} (h : n + 7 ≤ K) (a0 : List Int) : Le (f n a0) (p K a0) := by
 obtain ⟨K, rfl⟩ := pos_of_le (show 0 + 1 ≤ K by omega)
 rw [e]
 unfold f b
 repeat' first | with_reducible apply Le.bind | with_reducible apply Le.ite | with_reducible exact Le.rfl | with_reducible refine spec_l1Cur_puzzle.k ?_ _ _ _ | with_reducible refine spec_l1Cur_clue.k ?_ _ _ _ | with_reducible intro _ | omega
end spec_DrawAddClue
namespace impl_AddClue
noncomputable def p (K : Nat) (a0 : List (Int × (Int × Int))) (a1 a2 a3 : Int) : Option ((List (Int × (Int × Int))) × Bool) := PI Cx K 18 [.sv (.agg [.sl 28 (.pair (.int .i64) (.pair (.int .i64) (.int .i64))) a0]), .sv (.agg [.int .i64 a1, .int .i64 a2, .int .i64 a3])]
noncomputable def b (g0 : List (Int × (Int × Int)) → Option (List (Int × (Int × Int)))) (g1 : List (Int × (Int × Int)) → Option Bool) (a0 : List (Int × (Int × Int))) (a1 a2 a3 : Int) : Option ((List (Int × (Int × Int))) × Bool) :=
 (g0 a0).bind fun t0 =>
 if ((dlenN t0) + 1) ≤ 5864062014805 then ((g1 (t0 ++ [(a1, (a2, a3))])).bind fun t1 =>
 if (!t1) = true then (some (([] : List (Int × (Int × Int))), false)) else (some ((t0 ++ [(a1, (a2, a3))]), true))) else (none)
noncomputable def f (k : Nat) (a0 : List (Int × (Int × Int))) (a1 a2 a3 : Int) : Option ((List (Int × (Int × Int))) × Bool) := b slices_Clone_impl_Clue_impl_Clue.f (impl_IsPuzzle.f k) a0 a1 a2 a3
theorem e (K : Nat) (a0 : List (Int × (Int × Int))) (a1 a2 a3 : Int) : p (K + 1) a0 a1 a2 a3 = b (slices_Clone_impl_Clue_impl_Clue.p K) (impl_IsPuzzle.p K) a0 a1 a2 a3 := by kernel_rfl
theorem k {n K : Nat} (h : n + 7 ≤ K) (a0 : List (Int × (Int × Int))) (a1 a2 a3 : Int) : Le (f n a0 a1 a2 a3) (p K a0 a1 a2 a3) := by
 obtain ⟨K, rfl⟩ := pos_of_le (show 0 + 1 ≤ K by omega)
 rw [e]
 unfold f b
 repeat' first | with_reducible apply Le.bind | with_reducible apply Le.ite | with_reducible exact Le.rfl | with_reducible refine slices_Clone_impl_Clue_impl_Clue.k ?_ _ | with_reducible refine impl_IsPuzzle.k ?_ _ | with_reducible intro _ | omega
end impl_AddClue
namespace spec_AddClue
noncomputable def p (K : Nat) (a0 : List (Int × (Int × Int))) (a1 a2 a3 : Int) : Option ((List (Int × (Int × Int))) × Bool) := PI Cx K 19 [.sv (.agg [.sl 28 (.pair (.int .i64) (.pair (.int .i64) (.int .i64))) a0]), .sv (.agg [.int .i64 a1, .int .i64 a2, .int .i64 a3])]
noncomputable def b (g0 : List (Int × (Int × Int)) → Option Bool) (g1 : Int → Int → Int → Option Bool) (a0 : List (Int × (Int × Int))) (a1 a2 a3 : Int) : Option ((List (Int × (Int × Int))) × Bool) :=
 (g0 a0).bind fun t0 =>
 if (!t0) = true then (some (([] : List (Int × (Int × Int))), false)) else ((g1 a1 a2 a3).bind fun t1 =>
 if (!t1) = true then (some (([] : List (Int × (Int × Int))), false)) else (if ((dlen a0) == 6) = true then (some (([] : List (Int × (Int × Int))), false)) else (if (0 + (dlenN a0)) ≤ 5864062014805 then (if ((dlenN (([] : List (Int × (Int × Int))) ++ a0)) + 1) ≤ 5864062014805 then (some (((([] : List (Int × (Int × Int))) ++ a0) ++ [(a1, (a2, a3))]), true)) else (none)) else (none))))
noncomputable def f (k : Nat) (a0 : List (Int × (Int × Int))) (a1 a2 a3 : Int) : Option ((List (Int × (Int × Int))) × Bool) := b (spec_pzGood.f k) spec_pzClue.f a0 a1 a2 a3
theorem e (K : Nat) (a0 : List (Int × (Int × Int))) (a1 a2 a3 : Int) : p (K + 1) a0 a1 a2 a3 = b (spec_pzGood.p K) (spec_pzClue.p K) a0 a1 a2 a3 := by kernel_rfl
theorem k {n K : Nat} (h : n + 4 ≤ K) (a0 : List (Int × (Int × Int))) (a1 a2 a3 : Int) : Le (f n a0 a1 a2 a3) (p K a0 a1 a2 a3) := by
 obtain ⟨K, rfl⟩ := pos_of_le (show 0 + 1 ≤ K by omega)
 rw [e]
 unfold f b
 repeat' first | with_reducible apply Le.bind | with_reducible apply Le.ite | with_reducible exact Le.rfl | with_reducible refine spec_pzGood.k ?_ _ | with_reducible refine spec_pzClue.k ?_ _ _ _ | with_reducible intro _ | omega
end spec_AddClue
namespace spec_DrawDropClue
noncomputable def p (K : Nat) (a0 : List Int) : Option ((List (Int × (Int × Int))) × Int) := PI Cx K 29 [.sv (.one (.sl 5 (.int .u8) a0))]
noncomputable def b (g0 : List Int → Int → Int → Option ((List (Int × (Int × Int))) × ((List Int) × (Int × Int)))) (g1 : List Int → Int → Int → Int → Option (Int × ((List Int) × (Int × Int)))) (a0 : List Int) : Option ((List (Int × (Int × Int))) × Int) :=
 (g0 a0 0 0).bind fun t0 =>
 (g1 t0.2.1 t0.2.2.1 t0.2.2.2 6).bind fun t1 =>
 (g1 t1.2.1 t1.2.2.1 t1.2.2.2 9).bind fun t2 =>
 some (t0.1, (wrap64 (t1.1 - (wrap64 (Int.tdiv t2.1 8)))))
noncomputable def f (k : Nat) (a0 : List Int) : Option ((List (Int × (Int × Int))) × Int) := b (spec_l1Cur_puzzle.f k) spec_l1Cur_pick.f a0
theorem e (K : Nat) (a0 : List Int) : p (K + 1) a0 = b (spec_l1Cur_puzzle.p K) (spec_l1Cur_pick.p K) a0 := by kernel_rfl
theorem k {n K : Nat} (h : n + 7 ≤ K) (a0 : List Int) : Le (f n a0) (p K a0) := by
 obtain ⟨K, rfl⟩ := pos_of_le (show 0 + 1 ≤ K by omega)
 rw [e]
 unfold f b
 repeat' first | with_reducible apply Le.bind | with_reducible apply Le.ite | with_reducible exact Le.rfl | with_reducible refine spec_l1Cur_puzzle.k ?_ _ _ _ | with_reducible refine spec_l1Cur_pick.k ?_ _ _ _ _ | with_reducible intro _ | omega
end spec_DrawDropClue
namespace impl_DropClue
noncomputable def p (K : Nat) (a0 : List (Int × (Int × Int))) (a1 : Int) : Option ((List (Int × (Int × Int))) × Bool) := PI Cx K 20 [.sv (.agg [.sl 28 (.pair (.int .i64) (.pair (.int .i64) (.int .i64))) a0]), .sv (.one (.int .i64 a1))]
noncomputable def b (g0 : List (Int × (Int × Int)) → Option Bool) (g1 : Int → Int → Int → Option Bool) (g2 : List (Int × (Int × Int)) → Int → Option (List (Int × (Int × Int)))) (a0 : List (Int × (Int × Int))) (a1 : Int) : Option ((List (Int × (Int × Int))) × Bool) :=
 (g0 a0).bind fun t0 =>
 if (!t0) = true then (some (([] : List (Int × (Int × Int))), false)) else ((g1 a1 0 (wrap64 ((dlen a0) - 1))).bind fun t1 =>
 if (!t1) = true then (some (([] : List (Int × (Int × Int))), false)) else ((g2 a0 a1).bind fun t2 =>
 some (t2, true)))
noncomputable def f (k : Nat) (a0 : List (Int × (Int × Int))) (a1 : Int) : Option ((List (Int × (Int × Int))) × Bool) := b (impl_IsPuzzle.f k) impl_within.f impl_withoutClue.f a0 a1
theorem e (K : Nat) (a0 : List (Int × (Int × Int))) (a1 : Int) : p (K + 1) a0 a1 = b (impl_IsPuzzle.p K) (impl_within.p K) (impl_withoutClue.p K) a0 a1 := by kernel_rfl
theorem k {n K : Nat} (h : n + 7 ≤ K) (a0 : List (Int × (Int × Int))) (a1 : Int) : Le (f n a0 a1) (p K a0 a1) := by
 obtain ⟨K, rfl⟩ := pos_of_le (show 0 + 1 ≤ K by omega)
 rw [e]
 unfold f b
 repeat' first | with_reducible apply Le.bind | with_reducible apply Le.ite | with_reducible exact Le.rfl | with_reducible refine impl_IsPuzzle.k ?_ _ | with_reducible refine impl_within.k ?_ _ _ _ | with_reducible refine impl_withoutClue.k ?_ _ _ | with_reducible intro _ | omega
end impl_DropClue
namespace spec_DropClue
noncomputable def p (K : Nat) (a0 : List (Int × (Int × Int))) (a1 : Int) : Option ((List (Int × (Int × Int))) × Bool) := PI Cx K 21 [.sv (.agg [.sl 28 (.pair (.int .i64) (.pair (.int .i64) (.int .i64))) a0]), .sv (.one (.int .i64 a1))]
noncomputable def b (g0 : List (Int × (Int × Int)) → Option Bool) (g1 : Int → Int → Int → Option Bool) (g2 : List (Int × (Int × Int)) → Int → Option (List (Int × (Int × Int)))) (a0 : List (Int × (Int × Int))) (a1 : Int) : Option ((List (Int × (Int × Int))) × Bool) :=
 (g0 a0).bind fun t0 =>
 if (!t0) = true then (some (([] : List (Int × (Int × Int))), false)) else ((g1 a1 0 (wrap64 ((dlen a0) - 1))).bind fun t1 =>
 if (!t1) = true then (some (([] : List (Int × (Int × Int))), false)) else ((g2 a0 a1).bind fun t2 =>
 some (t2, true)))
noncomputable def f (k : Nat) (a0 : List (Int × (Int × Int))) (a1 : Int) : Option ((List (Int × (Int × Int))) × Bool) := b (spec_pzGood.f k) spec_l1In.f spec_pzWithout.f a0 a1
theorem e (K : Nat) (a0 : List (Int × (Int × Int))) (a1 : Int) : p (K + 1) a0 a1 = b (spec_pzGood.p K) (spec_l1In.p K) (spec_pzWithout.p K) a0 a1 := by kernel_rfl
theorem k {n K : Nat} (h : n + 4 ≤ K) (a0 : List (Int × (Int × Int))) (a1 : Int) : Le (f n a0 a1) (p K a0 a1) := by
 obtain ⟨K, rfl⟩ := pos_of_le (show 0 + 1 ≤ K by omega)
 rw [e]
 unfold f b
 repeat' first | with_reducible apply Le.bind | with_reducible apply Le.ite | with_reducible exact Le.rfl | with_reducible refine spec_pzGood.k ?_ _ | with_reducible refine spec_l1In.k ?_ _ _ _ | with_reducible refine spec_pzWithout.k ?_ _ _ | with_reducible intro _ | omega
end spec_DropClue
end Go.Proofs.Ytnpfeemkichniaa.Hi
