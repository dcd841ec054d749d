import Derived.Test.YtlibgicponpecaaGreatDoorGuF0
namespace Go.Proofs.YtlibgicponpecaaGreatDoor.Gu
open Go Go.Proofs.YtlibgicponpecaaGreatDoorPi Go.RowKit
set_option maxRecDepth 100000
set_option linter.unusedVariables false
namespace spec_pzAll
noncomputable def p (K : Nat) (a0 : List (Int × (Int × Int))) : Option (List (Int × Int)) := PI Cx K 39 [.sv (.one (.sl 48 (.pair (.int .i64) (.pair (.int .i64) (.int .i64))) a0))]
noncomputable def q0 (K m : Nat) (x0 : List (Int × (Int × Int))) (x1 : Int) (x2 : List (Int × Int)) : Option (List (Int × Int)) := runAt Cx K 39 [true, true, false, true, true] [m] ⟨[(0, .sv (.one (.sl 48 (.pair (.int .i64) (.pair (.int .i64) (.int .i64))) x0))), (3, .sv (.one (.full 1000000003000))), (4, .sv (.one (.int .i64 x1)))], [(1000000003000, .row 31 (.pair (.int .i64) (.int .i64)) x2 .own)], []⟩
noncomputable def q1 (K m0 m : Nat) (x0 : List (Int × (Int × Int))) (x1 x2 : Int) (x3 : List (Int × Int)) : Option (List (Int × Int)) := runAt Cx K 39 [true, true, false, true, true, true, true, false, true, true, true] [m0, m] ⟨[(0, .sv (.one (.sl 48 (.pair (.int .i64) (.pair (.int .i64) (.int .i64))) x0))), (3, .sv (.one (.full 1000000003000))), (4, .sv (.one (.int .i64 x1))), (5, .sv (.one (.int .i64 x2)))], [(1000000003000, .row 31 (.pair (.int .i64) (.int .i64)) x3 .own)], []⟩
noncomputable def q2 (K m0 m1 m : Nat) (x0 : List (Int × (Int × Int))) (x1 x2 : Int) (x3 : Bool) (x4 : List (Int × (Int × Int))) (x5 x6 : Int) (x7 : List (Int × Int)) (x8 x9 : Int) : Option (List (Int × Int)) := runAt Cx K 39 [true, true, false, true, true, true, true, false, true, true, true, true, true, false, true, true, true, false, true, true] [m0, m1, m] ⟨[(0, .sv (.one (.sl 48 (.pair (.int .i64) (.pair (.int .i64) (.int .i64))) x0))), (3, .sv (.one (.full 1000000003000))), (4, .sv (.one (.int .i64 x1))), (5, .sv (.one (.int .i64 x2))), (6, .sv (.one (.ptr 8003000 0))), (7, .sv (.one (.bool x3))), (21, .sv (.one (.sl 48 (.pair (.int .i64) (.pair (.int .i64) (.int .i64))) x4))), (22, .sv (.one (.int .i64 x5))), (23, .sv (.one (.int .i64 x6)))], [(1000000003000, .row 31 (.pair (.int .i64) (.int .i64)) x7 .own), (8003000, .box 31 [.int .i64 x8, .int .i64 x9])], []⟩
noncomputable def b (L0 : List (Int × (Int × Int)) → Int → List (Int × Int) → Option (List (Int × Int))) (a0 : List (Int × (Int × Int))) : Option (List (Int × Int)) :=
 L0 a0 1 ([] : List (Int × Int))
noncomputable def b0 (L1 : List (Int × (Int × Int)) → Int → Int → List (Int × Int) → Option (List (Int × Int))) (x0 : List (Int × (Int × Int))) (x1 : Int) (x2 : List (Int × Int)) : Option (List (Int × Int)) :=
 if (decide (x1 ≤ 12)) = true then (L1 x0 x1 0 x2) else (some x2)
noncomputable def b1 (L2 : List (Int × (Int × Int)) → Int → Int → Bool → List (Int × (Int × Int)) → Int → Int → List (Int × Int) → Int → Int → Option (List (Int × Int))) (L0 : List (Int × (Int × Int)) → Int → List (Int × Int) → Option (List (Int × Int))) (x0 : List (Int × (Int × Int))) (x1 x2 : Int) (x3 : List (Int × Int)) : Option (List (Int × Int)) :=
 if (decide (x2 ≤ 12)) = true then (L2 x0 x1 x2 true x0 (dlen x0) 0 x3 x1 x2) else (L0 x0 (W (x1 + 1)) x3)
noncomputable def b2 (L2 : List (Int × (Int × Int)) → Int → Int → Bool → List (Int × (Int × Int)) → Int → Int → List (Int × Int) → Int → Int → Option (List (Int × Int))) (L1 : List (Int × (Int × Int)) → Int → Int → List (Int × Int) → Option (List (Int × Int))) (g0 : Int → Int → Int → Int → Int → Option Bool) (x0 : List (Int × (Int × Int))) (x1 x2 : Int) (x3 : Bool) (x4 : List (Int × (Int × Int))) (x5 x6 : Int) (x7 : List (Int × Int)) (x8 x9 : Int) : Option (List (Int × Int)) :=
 if (decide (x6 < x5)) = true then (if 0 ≤ x6 then (if x6 < (dlen x4) then (if x3 = true then ((g0 (rd (0, (0, 0)) x4 x6).1 (rd (0, (0, 0)) x4 x6).2.1 (rd (0, (0, 0)) x4 x6).2.2 x8 x9).bind fun t0 =>
 L2 x0 x1 x2 t0 x4 x5 (W (x6 + 1)) x7 x8 x9) else (L2 x0 x1 x2 false x4 x5 (W (x6 + 1)) x7 x8 x9)) else (none)) else (none)) else (if x3 = true then (if ((dlenN x7) + 1) ≤ 8796093022208 then (L1 x0 x1 (W (x2 + 1)) (x7 ++ [(x8, x9)])) else (none)) else (L1 x0 x1 (W (x2 + 1)) x7))
mutual
noncomputable def l0 : Nat → List (Int × (Int × Int)) → Int → List (Int × Int) → Option (List (Int × Int))
 | 0, _, _, _ => none
 | k + 1, x0, x1, x2 => b0 (l1 k) x0 x1 x2
noncomputable def l1 : Nat → List (Int × (Int × Int)) → Int → Int → List (Int × Int) → Option (List (Int × Int))
 | 0, _, _, _, _ => none
 | k + 1, x0, x1, x2, x3 => b1 (l2 k) (l0 k) x0 x1 x2 x3
noncomputable def l2 : Nat → List (Int × (Int × Int)) → Int → Int → Bool → List (Int × (Int × Int)) → Int → Int → List (Int × Int) → Int → Int → Option (List (Int × Int))
 | 0, _, _, _, _, _, _, _, _, _, _ => none
 | k + 1, x0, x1, x2, x3, x4, x5, x6, x7, x8, x9 => b2 (l2 k) (l1 k) spec_pzFits.f x0 x1 x2 x3 x4 x5 x6 x7 x8 x9
end
noncomputable def f (k : Nat) (a0 : List (Int × (Int × Int))) : Option (List (Int × Int)) := b (l0 k) a0
theorem e (K : Nat) (a0 : List (Int × (Int × Int))) : p (K + 1) a0 = b (q0 K K) a0 := PI_at Cx (by kernel_rfl)
theorem e0 (K m : Nat) (x0 : List (Int × (Int × Int))) (x1 : Int) (x2 : List (Int × Int)) : q0 K (m + 1) x0 x1 x2 = b0 (q1 K m K) x0 x1 x2 := by kernel_rfl
theorem e1 (K m0 m : Nat) (x0 : List (Int × (Int × Int))) (x1 x2 : Int) (x3 : List (Int × Int)) : q1 K m0 (m + 1) x0 x1 x2 x3 = b1 (q2 K m0 m K) (q0 K m0) x0 x1 x2 x3 := by kernel_rfl
theorem e2 (K m0 m1 m : Nat) (x0 : List (Int × (Int × Int))) (x1 x2 : Int) (x3 : Bool) (x4 : List (Int × (Int × Int))) (x5 x6 : Int) (x7 : List (Int × Int)) (x8 x9 : Int) : q2 K m0 m1 (m + 1) x0 x1 x2 x3 x4 x5 x6 x7 x8 x9 = b2 (q2 K m0 m1 m) (q1 K m0 m1) (spec_pzFits.p K) x0 x1 x2 x3 x4 x5 x6 x7 x8 x9 := by kernel_rfl
theorem kl (n : Nat) : ∀ K, n + 3 ≤ K → (∀ m, n ≤ m → ∀ (x0 : List (Int × (Int × Int))) (x1 : Int) (x2 : List (Int × Int)), Le (l0 n x0 x1 x2) (q0 K m x0 x1 x2)) ∧ (∀ m0, n ≤ m0 → ∀ m, n ≤ m → ∀ (x0 : List (Int × (Int × Int))) (x1 x2 : Int) (x3 : List (Int × Int)), Le (l1 n x0 x1 x2 x3) (q1 K m0 m x0 x1 x2 x3)) ∧ (∀ m0, n ≤ m0 → ∀ m1, n ≤ m1 → ∀ m, n ≤ m → ∀ (x0 : List (Int × (Int × Int))) (x1 x2 : Int) (x3 : Bool) (x4 : List (Int × (Int × Int))) (x5 x6 : Int) (x7 : List (Int × Int)) (x8 x9 : Int), Le (l2 n x0 x1 x2 x3 x4 x5 x6 x7 x8 x9) (q2 K m0 m1 m x0 x1 x2 x3 x4 x5 x6 x7 x8 x9)) := by
 induction n with
 | zero => exact fun K _ => ⟨fun _ _ _ _ _ => Le.none, fun _ _ _ _ _ _ _ _ => Le.none, fun _ _ _ _ _ _ _ _ _ _ _ _ _ _ _ _ => Le.none⟩
 | succ n ih =>
  intro K hK
  have ih := ih K (by omega)
  refine ⟨?_, ?_, ?_⟩
  · intro m hm x0 x1 x2
    obtain ⟨m, rfl⟩ := pos_of_le hm
    rw [e0]
    show Le (b0 (l1 n) x0 x1 x2) _
    unfold b0
    repeat' first | with_reducible apply Le.bind | with_reducible apply Le.ite | with_reducible exact Le.rfl | with_reducible refine ih.1 _ ?_ _ _ _ | with_reducible refine ih.2.1 _ ?_ _ ?_ _ _ _ _ | with_reducible refine ih.2.2 _ ?_ _ ?_ _ ?_ _ _ _ _ _ _ _ _ _ _ | with_reducible intro _ | omega
  · intro m0 h0 m hm x0 x1 x2 x3
    obtain ⟨m, rfl⟩ := pos_of_le hm
    rw [e1]
    show Le (b1 (l2 n) (l0 n) x0 x1 x2 x3) _
    unfold b1
    repeat' first | with_reducible apply Le.bind | with_reducible apply Le.ite | with_reducible exact Le.rfl | with_reducible refine ih.1 _ ?_ _ _ _ | with_reducible refine ih.2.1 _ ?_ _ ?_ _ _ _ _ | with_reducible refine ih.2.2 _ ?_ _ ?_ _ ?_ _ _ _ _ _ _ _ _ _ _ | with_reducible intro _ | omega
  · intro m0 h0 m1 h1 m hm x0 x1 x2 x3 x4 x5 x6 x7 x8 x9
    obtain ⟨m, rfl⟩ := pos_of_le hm
    rw [e2]
    show Le (b2 (l2 n) (l1 n) spec_pzFits.f x0 x1 x2 x3 x4 x5 x6 x7 x8 x9) _
    unfold b2
    repeat' first | with_reducible apply Le.bind | with_reducible apply Le.ite | with_reducible exact Le.rfl | with_reducible refine ih.1 _ ?_ _ _ _ | with_reducible refine ih.2.1 _ ?_ _ ?_ _ _ _ _ | with_reducible refine ih.2.2 _ ?_ _ ?_ _ ?_ _ _ _ _ _ _ _ _ _ _ | with_reducible refine spec_pzFits.k ?_ _ _ _ _ _ | with_reducible intro _ | omega
theorem k {n K : Nat} (h : n + 4 ≤ K) (a0 : List (Int × (Int × Int))) : Le (f n a0) (p K a0) := by
 obtain ⟨K, rfl⟩ := pos_of_le (show 0 + 1 ≤ K by omega)
 have kl := kl n K (by omega)
 rw [e]
 unfold f b
 repeat' first | with_reducible apply Le.bind | with_reducible apply Le.ite | with_reducible exact Le.rfl | with_reducible refine kl.1 _ ?_ _ _ _ | with_reducible refine kl.2.1 _ ?_ _ ?_ _ _ _ _ | with_reducible refine kl.2.2 _ ?_ _ ?_ _ ?_ _ _ _ _ _ _ _ _ _ _ | with_reducible intro _ | omega
end spec_pzAll
namespace spec_Solutions
noncomputable def p (K : Nat) (a0 : List (Int × (Int × Int))) : Option ((List (Int × Int)) × Bool) := PI Cx K 6 [.sv (.agg [.sl 48 (.pair (.int .i64) (.pair (.int .i64) (.int .i64))) a0])]
noncomputable def b (g0 : List (Int × (Int × Int)) → Option Bool) (g1 : List (Int × (Int × Int)) → Option (List (Int × Int))) (a0 : List (Int × (Int × Int))) : Option ((List (Int × Int)) × Bool) :=
 (g0 a0).bind fun t0 =>
 if (!t0) = true then (some (([] : List (Int × Int)), false)) else ((g1 a0).bind fun t1 =>
 some (t1, true))
noncomputable def f (k : Nat) (a0 : List (Int × (Int × Int))) : Option ((List (Int × Int)) × Bool) := b (spec_pzGood.f k) (spec_pzAll.f k) a0
theorem e (K : Nat) (a0 : List (Int × (Int × Int))) : p (K + 1) a0 = b (spec_pzGood.p K) (spec_pzAll.p K) a0 := PI_at Cx (by kernel_rfl)
theorem k {n K : Nat} (h : n + 5 ≤ K) (a0 : List (Int × (Int × Int))) : Le (f n a0) (p K a0) := by
 obtain ⟨K, rfl⟩ := pos_of_le (show 0 + 1 ≤ K by omega)
 rw [e]
 unfold f b
 repeat' first | with_reducible apply Le.bind | with_reducible apply Le.ite | with_reducible exact Le.rfl | with_reducible refine spec_pzGood.k ?_ _ | with_reducible refine spec_pzAll.k ?_ _ | with_reducible intro _ | omega
end spec_Solutions
namespace impl_CountSolutions
noncomputable def p (K : Nat) (a0 : List (Int × (Int × Int))) : Option (Int × Bool) := PI Cx K 7 [.sv (.agg [.sl 48 (.pair (.int .i64) (.pair (.int .i64) (.int .i64))) a0])]
noncomputable def b (g0 : List (Int × (Int × Int)) → Option Bool) (g1 : List (Int × (Int × Int)) → Option (List (Int × Int))) (a0 : List (Int × (Int × Int))) : Option (Int × Bool) :=
 (g0 a0).bind fun t0 =>
 if (!t0) = true then (some (0, false)) else ((g1 a0).bind fun t1 =>
 some ((dlen t1), true))
noncomputable def f (k : Nat) (a0 : List (Int × (Int × Int))) : Option (Int × Bool) := b (impl_IsPuzzle.f k) (impl_solutions.f k) a0
theorem e (K : Nat) (a0 : List (Int × (Int × Int))) : p (K + 1) a0 = b (impl_IsPuzzle.p K) (impl_solutions.p K) a0 := PI_at Cx (by kernel_rfl)
theorem k {n K : Nat} (h : n + 9 ≤ K) (a0 : List (Int × (Int × Int))) : Le (f n a0) (p K a0) := by
 obtain ⟨K, rfl⟩ := pos_of_le (show 0 + 1 ≤ K by omega)
 rw [e]
 unfold f b
 repeat' first | with_reducible apply Le.bind | with_reducible apply Le.ite | with_reducible exact Le.rfl | with_reducible refine impl_IsPuzzle.k ?_ _ | with_reducible refine impl_solutions.k ?_ _ | with_reducible intro _ | omega
end impl_CountSolutions
namespace spec_CountSolutions
noncomputable def p (K : Nat) (a0 : List (Int × (Int × Int))) : Option (Int × Bool) := PI Cx K 8 [.sv (.agg [.sl 48 (.pair (.int .i64) (.pair (.int .i64) (.int .i64))) a0])]
noncomputable def b (g0 : List (Int × (Int × Int)) → Option Bool) (g1 : List (Int × (Int × Int)) → Option (List (Int × Int))) (a0 : List (Int × (Int × Int))) : Option (Int × Bool) :=
 (g0 a0).bind fun t0 =>
 if (!t0) = true then (some (0, false)) else ((g1 a0).bind fun t1 =>
 some ((dlen t1), true))
noncomputable def f (k : Nat) (a0 : List (Int × (Int × Int))) : Option (Int × Bool) := b (spec_pzGood.f k) (spec_pzAll.f k) a0
theorem e (K : Nat) (a0 : List (Int × (Int × Int))) : p (K + 1) a0 = b (spec_pzGood.p K) (spec_pzAll.p K) a0 := PI_at Cx (by kernel_rfl)
theorem k {n K : Nat} (h : n + 5 ≤ K) (a0 : List (Int × (Int × Int))) : Le (f n a0) (p K a0) := by
 obtain ⟨K, rfl⟩ := pos_of_le (show 0 + 1 ≤ K by omega)
 rw [e]
 unfold f b
 repeat' first | with_reducible apply Le.bind | with_reducible apply Le.ite | with_reducible exact Le.rfl | with_reducible refine spec_pzGood.k ?_ _ | with_reducible refine spec_pzAll.k ?_ _ | with_reducible intro _ | omega
end spec_CountSolutions
namespace impl_FirstSolution
noncomputable def p (K : Nat) (a0 : List (Int × (Int × Int))) : Option ((Int × Int) × Bool) := PI Cx K 9 [.sv (.agg [.sl 48 (.pair (.int .i64) (.pair (.int .i64) (.int .i64))) a0])]
noncomputable def b (g0 : List (Int × (Int × Int)) → Option Bool) (g1 : List (Int × (Int × Int)) → Option (List (Int × Int))) (a0 : List (Int × (Int × Int))) : Option ((Int × Int) × Bool) :=
 (g0 a0).bind fun t0 =>
 if (!t0) = true then (some ((0, 0), false)) else ((g1 a0).bind fun t1 =>
 if ((dlen t1) == 0) = true then (some ((0, 0), false)) else (if 0 < (dlen t1) then (some ((rd (0, 0) t1 0), true)) else (none)))
noncomputable def f (k : Nat) (a0 : List (Int × (Int × Int))) : Option ((Int × Int) × Bool) := b (impl_IsPuzzle.f k) (impl_solutions.f k) a0
theorem e (K : Nat) (a0 : List (Int × (Int × Int))) : p (K + 1) a0 = b (impl_IsPuzzle.p K) (impl_solutions.p K) a0 := PI_at Cx (by kernel_rfl)
theorem k {n K : Nat} (h : n + 9 ≤ K) (a0 : List (Int × (Int × Int))) : Le (f n a0) (p K a0) := by
 obtain ⟨K, rfl⟩ := pos_of_le (show 0 + 1 ≤ K by omega)
 rw [e]
 unfold f b
 repeat' first | with_reducible apply Le.bind | with_reducible apply Le.ite | with_reducible exact Le.rfl | with_reducible refine impl_IsPuzzle.k ?_ _ | with_reducible refine impl_solutions.k ?_ _ | with_reducible intro _ | omega
end impl_FirstSolution
namespace spec_FirstSolution
noncomputable def p (K : Nat) (a0 : List (Int × (Int × Int))) : Option ((Int × Int) × Bool) := PI Cx K 10 [.sv (.agg [.sl 48 (.pair (.int .i64) (.pair (.int .i64) (.int .i64))) a0])]
noncomputable def b (g0 : List (Int × (Int × Int)) → Option Bool) (g1 : List (Int × (Int × Int)) → Option (List (Int × Int))) (a0 : List (Int × (Int × Int))) : Option ((Int × Int) × Bool) :=
 (g0 a0).bind fun t0 =>
 if (!t0) = true then (some ((0, 0), false)) else ((g1 a0).bind fun t1 =>
 if ((dlen t1) == 0) = true then (some ((0, 0), false)) else (if 0 < (dlen t1) then (some ((rd (0, 0) t1 0), true)) else (none)))
noncomputable def f (k : Nat) (a0 : List (Int × (Int × Int))) : Option ((Int × Int) × Bool) := b (spec_pzGood.f k) (spec_pzAll.f k) a0
theorem e (K : Nat) (a0 : List (Int × (Int × Int))) : p (K + 1) a0 = b (spec_pzGood.p K) (spec_pzAll.p K) a0 := PI_at Cx (by kernel_rfl)
theorem k {n K : Nat} (h : n + 5 ≤ K) (a0 : List (Int × (Int × Int))) : Le (f n a0) (p K a0) := by
 obtain ⟨K, rfl⟩ := pos_of_le (show 0 + 1 ≤ K by omega)
 rw [e]
 unfold f b
 repeat' first | with_reducible apply Le.bind | with_reducible apply Le.ite | with_reducible exact Le.rfl | with_reducible refine spec_pzGood.k ?_ _ | with_reducible refine spec_pzAll.k ?_ _ | with_reducible intro _ | omega
end spec_FirstSolution
namespace impl_SureSnail
noncomputable def p (K : Nat) (a0 : List (Int × (Int × Int))) : Option (Int × (Int × Bool)) := PI Cx K 11 [.sv (.agg [.sl 48 (.pair (.int .i64) (.pair (.int .i64) (.int .i64))) a0])]
noncomputable def q0 (K m : Nat) (x0 x1 : Int) (x2 : List (Int × Int)) (x3 x4 : Int) : Option (Int × (Int × Bool)) := runAt Cx K 11 [true, true, true, true, true, false, true, true] [m] ⟨[(6, .sv (.one (.int .i64 x0))), (7, .sv (.one (.int .i64 x1))), (27, .sv (.one (.sl 31 (.pair (.int .i64) (.int .i64)) x2))), (28, .sv (.one (.int .i64 x3))), (29, .sv (.one (.int .i64 x4)))], [], []⟩
noncomputable def b (L0 : Int → Int → List (Int × Int) → Int → Int → Option (Int × (Int × Bool))) (g0 : List (Int × (Int × Int)) → Option Bool) (g1 : List (Int × (Int × Int)) → Option (List (Int × Int))) (a0 : List (Int × (Int × Int))) : Option (Int × (Int × Bool)) :=
 (g0 a0).bind fun t0 =>
 if (!t0) = true then (some (0, (0, false))) else ((g1 a0).bind fun t1 =>
 if ((dlen t1) == 0) = true then (some (0, (0, false))) else (if 0 < (dlen t1) then (if 0 < (dlen t1) then (L0 (rd (0, 0) t1 0).1 (rd (0, 0) t1 0).2 t1 (dlen t1) 0) else (none)) else (none)))
noncomputable def b0 (L0 : Int → Int → List (Int × Int) → Int → Int → Option (Int × (Int × Bool))) (x0 x1 : Int) (x2 : List (Int × Int)) (x3 x4 : Int) : Option (Int × (Int × Bool)) :=
 if (decide (x4 < x3)) = true then (if 0 ≤ x4 then (if x4 < (dlen x2) then (if ((rd (0, 0) x2 x4).1 != x0) = true then (if ((rd (0, 0) x2 x4).2 != x1) = true then (L0 (-1) (-1) x2 x3 (W (x4 + 1))) else (L0 (-1) x1 x2 x3 (W (x4 + 1)))) else (if ((rd (0, 0) x2 x4).2 != x1) = true then (L0 x0 (-1) x2 x3 (W (x4 + 1))) else (L0 x0 x1 x2 x3 (W (x4 + 1))))) else (none)) else (none)) else (some (x0, (x1, true)))
noncomputable def l0 : Nat → Int → Int → List (Int × Int) → Int → Int → Option (Int × (Int × Bool))
 | 0, _, _, _, _, _ => none
 | k + 1, x0, x1, x2, x3, x4 => b0 (l0 k) x0 x1 x2 x3 x4
noncomputable def f (k : Nat) (a0 : List (Int × (Int × Int))) : Option (Int × (Int × Bool)) := b (l0 k) (impl_IsPuzzle.f k) (impl_solutions.f k) a0
theorem e (K : Nat) (a0 : List (Int × (Int × Int))) : p (K + 1) a0 = b (q0 K K) (impl_IsPuzzle.p K) (impl_solutions.p K) a0 := PI_at Cx (by kernel_rfl)
theorem e0 (K m : Nat) (x0 x1 : Int) (x2 : List (Int × Int)) (x3 x4 : Int) : q0 K (m + 1) x0 x1 x2 x3 x4 = b0 (q0 K m) x0 x1 x2 x3 x4 := by kernel_rfl
theorem kl (n : Nat) : ∀ K, n + 8 ≤ K → (∀ m, n ≤ m → ∀ (x0 x1 : Int) (x2 : List (Int × Int)) (x3 x4 : Int), Le (l0 n x0 x1 x2 x3 x4) (q0 K m x0 x1 x2 x3 x4)) := by
 induction n with
 | zero => exact fun K _ => fun _ _ _ _ _ _ _ => Le.none
 | succ n ih =>
  intro K hK
  have ih := ih K (by omega)
  intro m hm x0 x1 x2 x3 x4
  obtain ⟨m, rfl⟩ := pos_of_le hm
  rw [e0]
  show Le (b0 (l0 n) x0 x1 x2 x3 x4) _
  unfold b0
  repeat' first | with_reducible apply Le.bind | with_reducible apply Le.ite | with_reducible exact Le.rfl | with_reducible refine ih _ ?_ _ _ _ _ _ | with_reducible intro _ | omega
theorem k {n K : Nat} (h : n + 9 ≤ K) (a0 : List (Int × (Int × Int))) : Le (f n a0) (p K a0) := by
 obtain ⟨K, rfl⟩ := pos_of_le (show 0 + 1 ≤ K by omega)
 have kl := kl n K (by omega)
 rw [e]
 unfold f b
 repeat' first | with_reducible apply Le.bind | with_reducible apply Le.ite | with_reducible exact Le.rfl | with_reducible refine kl _ ?_ _ _ _ _ _ | with_reducible refine impl_IsPuzzle.k ?_ _ | with_reducible refine impl_solutions.k ?_ _ | with_reducible intro _ | omega
end impl_SureSnail
namespace spec_SureSnail
noncomputable def p (K : Nat) (a0 : List (Int × (Int × Int))) : Option (Int × (Int × Bool)) := PI Cx K 12 [.sv (.agg [.sl 48 (.pair (.int .i64) (.pair (.int .i64) (.int .i64))) a0])]
noncomputable def q0 (K m : Nat) (x0 x1 : Int) (x2 : List (Int × Int)) (x3 x4 : Int) : Option (Int × (Int × Bool)) := runAt Cx K 12 [true, true, true, true, true, false, true, true] [m] ⟨[(6, .sv (.one (.int .i64 x0))), (7, .sv (.one (.int .i64 x1))), (27, .sv (.one (.sl 31 (.pair (.int .i64) (.int .i64)) x2))), (28, .sv (.one (.int .i64 x3))), (29, .sv (.one (.int .i64 x4)))], [], []⟩
noncomputable def b (L0 : Int → Int → List (Int × Int) → Int → Int → Option (Int × (Int × Bool))) (g0 : List (Int × (Int × Int)) → Option Bool) (g1 : List (Int × (Int × Int)) → Option (List (Int × Int))) (a0 : List (Int × (Int × Int))) : Option (Int × (Int × Bool)) :=
 (g0 a0).bind fun t0 =>
 if (!t0) = true then (some (0, (0, false))) else ((g1 a0).bind fun t1 =>
 if ((dlen t1) == 0) = true then (some (0, (0, false))) else (if 0 < (dlen t1) then (if 0 < (dlen t1) then (L0 (rd (0, 0) t1 0).1 (rd (0, 0) t1 0).2 t1 (dlen t1) 0) else (none)) else (none)))
noncomputable def b0 (L0 : Int → Int → List (Int × Int) → Int → Int → Option (Int × (Int × Bool))) (x0 x1 : Int) (x2 : List (Int × Int)) (x3 x4 : Int) : Option (Int × (Int × Bool)) :=
 if (decide (x4 < x3)) = true then (if 0 ≤ x4 then (if x4 < (dlen x2) then (if ((rd (0, 0) x2 x4).1 != x0) = true then (if ((rd (0, 0) x2 x4).2 != x1) = true then (L0 (-1) (-1) x2 x3 (W (x4 + 1))) else (L0 (-1) x1 x2 x3 (W (x4 + 1)))) else (if ((rd (0, 0) x2 x4).2 != x1) = true then (L0 x0 (-1) x2 x3 (W (x4 + 1))) else (L0 x0 x1 x2 x3 (W (x4 + 1))))) else (none)) else (none)) else (some (x0, (x1, true)))
noncomputable def l0 : Nat → Int → Int → List (Int × Int) → Int → Int → Option (Int × (Int × Bool))
 | 0, _, _, _, _, _ => none
 | k + 1, x0, x1, x2, x3, x4 => b0 (l0 k) x0 x1 x2 x3 x4
noncomputable def f (k : Nat) (a0 : List (Int × (Int × Int))) : Option (Int × (Int × Bool)) := b (l0 k) (spec_pzGood.f k) (spec_pzAll.f k) a0
theorem e (K : Nat) (a0 : List (Int × (Int × Int))) : p (K + 1) a0 = b (q0 K K) (spec_pzGood.p K) (spec_pzAll.p K) a0 := PI_at Cx (by kernel_rfl)
theorem e0 (K m : Nat) (x0 x1 : Int) (x2 : List (Int × Int)) (x3 x4 : Int) : q0 K (m + 1) x0 x1 x2 x3 x4 = b0 (q0 K m) x0 x1 x2 x3 x4 := by kernel_rfl
theorem kl (n : Nat) : ∀ K, n + 4 ≤ K → (∀ m, n ≤ m → ∀ (x0 x1 : Int) (x2 : List (Int × Int)) (x3 x4 : Int), Le (l0 n x0 x1 x2 x3 x4) (q0 K m x0 x1 x2 x3 x4)) := by
 induction n with
 | zero => exact fun K _ => fun _ _ _ _ _ _ _ => Le.none
 | succ n ih =>
  intro K hK
  have ih := ih K (by omega)
  intro m hm x0 x1 x2 x3 x4
  obtain ⟨m, rfl⟩ := pos_of_le hm
  rw [e0]
  show Le (b0 (l0 n) x0 x1 x2 x3 x4) _
  unfold b0
  repeat' first | with_reducible apply Le.bind | with_reducible apply Le.ite | with_reducible exact Le.rfl | with_reducible refine ih _ ?_ _ _ _ _ _ | with_reducible intro _ | omega
theorem k {n K : Nat} (h : n + 5 ≤ K) (a0 : List (Int × (Int × Int))) : Le (f n a0) (p K a0) := by
 obtain ⟨K, rfl⟩ := pos_of_le (show 0 + 1 ≤ K by omega)
 have kl := kl n K (by omega)
 rw [e]
 unfold f b
 repeat' first | with_reducible apply Le.bind | with_reducible apply Le.ite | with_reducible exact Le.rfl | with_reducible refine kl _ ?_ _ _ _ _ _ | with_reducible refine spec_pzGood.k ?_ _ | with_reducible refine spec_pzAll.k ?_ _ | with_reducible intro _ | omega
end spec_SureSnail
namespace impl_IsSolved
noncomputable def p (K : Nat) (a0 : List (Int × (Int × Int))) : Option (Bool × Bool) := PI Cx K 13 [.sv (.agg [.sl 48 (.pair (.int .i64) (.pair (.int .i64) (.int .i64))) a0])]
noncomputable def b (g0 : List (Int × (Int × Int)) → Option Bool) (g1 : List (Int × (Int × Int)) → Option (List (Int × Int))) (a0 : List (Int × (Int × Int))) : Option (Bool × Bool) :=
 (g0 a0).bind fun t0 =>
 if (!t0) = true then (some (false, false)) else ((g1 a0).bind fun t1 =>
 some (((dlen t1) == 1), true))
noncomputable def f (k : Nat) (a0 : List (Int × (Int × Int))) : Option (Bool × Bool) := b (impl_IsPuzzle.f k) (impl_solutions.f k) a0
theorem e (K : Nat) (a0 : List (Int × (Int × Int))) : p (K + 1) a0 = b (impl_IsPuzzle.p K) (impl_solutions.p K) a0 := PI_at Cx (by kernel_rfl)
theorem k {n K : Nat} (h : n + 9 ≤ K) (a0 : List (Int × (Int × Int))) : Le (f n a0) (p K a0) := by
 obtain ⟨K, rfl⟩ := pos_of_le (show 0 + 1 ≤ K by omega)
 rw [e]
 unfold f b
 repeat' first | with_reducible apply Le.bind | with_reducible apply Le.ite | with_reducible exact Le.rfl | with_reducible refine impl_IsPuzzle.k ?_ _ | with_reducible refine impl_solutions.k ?_ _ | with_reducible intro _ | omega
end impl_IsSolved
namespace spec_pzSolved
noncomputable def p (K : Nat) (a0 : List (Int × (Int × Int))) : Option Bool := PI Cx K 40 [.sv (.one (.sl 48 (.pair (.int .i64) (.pair (.int .i64) (.int .i64))) a0))]
noncomputable def b (g0 : List (Int × (Int × Int)) → Option (List (Int × Int))) (a0 : List (Int × (Int × Int))) : Option Bool :=
 (g0 a0).bind fun t0 =>
 some ((dlen t0) == 1)
noncomputable def f (k : Nat) (a0 : List (Int × (Int × Int))) : Option Bool := b (spec_pzAll.f k) a0
theorem e (K : Nat) (a0 : List (Int × (Int × Int))) : p (K + 1) a0 = b (spec_pzAll.p K) a0 := PI_at Cx (by kernel_rfl)
theorem k {n K : Nat} (h : n + 5 ≤ K) (a0 : List (Int × (Int × Int))) : Le (f n a0) (p K a0) := by
 obtain ⟨K, rfl⟩ := pos_of_le (show 0 + 1 ≤ K by omega)
 rw [e]
 unfold f b
 repeat' first | with_reducible apply Le.bind | with_reducible apply Le.ite | with_reducible exact Le.rfl | with_reducible refine spec_pzAll.k ?_ _ | with_reducible intro _ | omega
end spec_pzSolved
namespace spec_IsSolved
noncomputable def p (K : Nat) (a0 : List (Int × (Int × Int))) : Option (Bool × Bool) := PI Cx K 14 [.sv (.agg [.sl 48 (.pair (.int .i64) (.pair (.int .i64) (.int .i64))) a0])]
noncomputable def b (g0 : List (Int × (Int × Int)) → Option Bool) (g1 : List (Int × (Int × Int)) → Option Bool) (a0 : List (Int × (Int × Int))) : Option (Bool × Bool) :=
 (g0 a0).bind fun t0 =>
 if (!t0) = true then (some (false, false)) else ((g1 a0).bind fun t1 =>
 some (t1, true))
noncomputable def f (k : Nat) (a0 : List (Int × (Int × Int))) : Option (Bool × Bool) := b (spec_pzGood.f k) (spec_pzSolved.f k) a0
theorem e (K : Nat) (a0 : List (Int × (Int × Int))) : p (K + 1) a0 = b (spec_pzGood.p K) (spec_pzSolved.p K) a0 := PI_at Cx (by kernel_rfl)
theorem k {n K : Nat} (h : n + 6 ≤ K) (a0 : List (Int × (Int × Int))) : Le (f n a0) (p K a0) := by
 obtain ⟨K, rfl⟩ := pos_of_le (show 0 + 1 ≤ K by omega)
 rw [e]
 unfold f b
 repeat' first | with_reducible apply Le.bind | with_reducible apply Le.ite | with_reducible exact Le.rfl | with_reducible refine spec_pzGood.k ?_ _ | with_reducible refine spec_pzSolved.k ?_ _ | with_reducible intro _ | omega
end spec_IsSolved
namespace slices_Clone_impl_Clue_impl_Clue
noncomputable def p (K : Nat) (a0 : List (Int × (Int × Int))) : Option (List (Int × (Int × Int))) := PI Cx K 63 [.sv (.one (.sl 48 (.pair (.int .i64) (.pair (.int .i64) (.int .i64))) a0))]
noncomputable def f (a0 : List (Int × (Int × Int))) : Option (List (Int × (Int × Int))) := if a0.length ≤ 5864062014805 then some a0 else none
theorem e (K : Nat) (a0 : List (Int × (Int × Int))) : p (K + 1) a0 = f a0 := PI_at Cx (by kernel_rfl)
theorem k {K : Nat} (h : 1 ≤ K) (a0 : List (Int × (Int × Int))) : Le (f a0) (p K a0) := by
 obtain ⟨K, rfl⟩ := pos_of_le h
 rw [e]
 exact Le.rfl
end slices_Clone_impl_Clue_impl_Clue
namespace impl_withoutClue
noncomputable def p (K : Nat) (a0 : List (Int × (Int × Int))) (a1 : Int) : Option (List (Int × (Int × Int))) := PI Cx K 41 [.sv (.one (.sl 48 (.pair (.int .i64) (.pair (.int .i64) (.int .i64))) a0)), .sv (.one (.int .i64 a1))]
noncomputable def b (g0 : List (Int × (Int × Int)) → Option (List (Int × (Int × Int)))) (a0 : List (Int × (Int × Int))) (a1 : Int) : Option (List (Int × (Int × Int))) :=
 (g0 a0).bind fun t0 =>
 if 0 ≤ a1 then (if a1 < (dlen t0) then (if (W (a1 + 1)) = (a1 + 1) then (if (dlen t0) ≤ 5000000000000 then (some ((List.take (Int.toNat a1) t0) ++ (List.drop (Int.toNat (W (a1 + 1))) t0))) else (none)) else (none)) else (none)) else (none)
noncomputable def f (a0 : List (Int × (Int × Int))) (a1 : Int) : Option (List (Int × (Int × Int))) := b slices_Clone_impl_Clue_impl_Clue.f a0 a1
theorem e (K : Nat) (a0 : List (Int × (Int × Int))) (a1 : Int) : p (K + 1) a0 a1 = b (slices_Clone_impl_Clue_impl_Clue.p K) a0 a1 := PI_at Cx (by kernel_rfl)
theorem k {K : Nat} (h : 2 ≤ K) (a0 : List (Int × (Int × Int))) (a1 : Int) : Le (f a0 a1) (p K a0 a1) := by
 obtain ⟨K, rfl⟩ := pos_of_le (show 0 + 1 ≤ K by omega)
 rw [e]
 unfold f b
 repeat' first | with_reducible apply Le.bind | with_reducible apply Le.ite | with_reducible exact Le.rfl | with_reducible refine slices_Clone_impl_Clue_impl_Clue.k ?_ _ | with_reducible intro _ | omega
end impl_withoutClue
namespace impl_NeedlessClues
noncomputable def p (K : Nat) (a0 : List (Int × (Int × Int))) : Option ((List Int) × Bool) := PI Cx K 15 [.sv (.agg [.sl 48 (.pair (.int .i64) (.pair (.int .i64) (.int .i64))) a0])]
noncomputable def q0 (K m : Nat) (x0 x1 x2 : Int) (x3 : List (Int × (Int × Int))) (x4 : List Int) : Option ((List Int) × Bool) := runAt Cx K 15 [true, true, true, true, false, true, true] [m] ⟨[(1, .sv (.one (.ptr 0 0))), (4, .sv (.one (.int .i64 x0))), (5, .sv (.one (.full 1000000005000))), (16, .sv (.one (.int .i64 x1))), (17, .sv (.one (.int .i64 x2)))], [(0, .box 24 [.sl 48 (.pair (.int .i64) (.pair (.int .i64) (.int .i64))) x3]), (1000000005000, .row 3 (.int .i64) x4 .own)], []⟩
noncomputable def b (L0 : Int → Int → Int → List (Int × (Int × Int)) → List Int → Option ((List Int) × Bool)) (g0 : List (Int × (Int × Int)) → Option Bool) (g1 : List (Int × (Int × Int)) → Option (List (Int × Int))) (a0 : List (Int × (Int × Int))) : Option ((List Int) × Bool) :=
 (g0 a0).bind fun t0 =>
 if (!t0) = true then (some (([] : List Int), false)) else ((g1 a0).bind fun t1 =>
 L0 (dlen t1) (dlen a0) 0 a0 ([] : List Int))
noncomputable def b0 (L0 : Int → Int → Int → List (Int × (Int × Int)) → List Int → Option ((List Int) × Bool)) (g2 : List (Int × (Int × Int)) → Int → Option (List (Int × (Int × Int)))) (g1 : List (Int × (Int × Int)) → Option (List (Int × Int))) (x0 x1 x2 : Int) (x3 : List (Int × (Int × Int))) (x4 : List Int) : Option ((List Int) × Bool) :=
 if (decide (x2 < x1)) = true then ((g2 x3 x2).bind fun t0 =>
 (g1 t0).bind fun t1 =>
 if ((dlen t1) == x0) = true then (if ((dlenN x4) + 1) ≤ 17592186044416 then (L0 x0 x1 (W (x2 + 1)) x3 (x4 ++ [x2])) else (none)) else (L0 x0 x1 (W (x2 + 1)) x3 x4)) else (some (x4, true))
noncomputable def l0 : Nat → Int → Int → Int → List (Int × (Int × Int)) → List Int → Option ((List Int) × Bool)
 | 0, _, _, _, _, _ => none
 | k + 1, x0, x1, x2, x3, x4 => b0 (l0 k) impl_withoutClue.f (impl_solutions.f k) x0 x1 x2 x3 x4
noncomputable def f (k : Nat) (a0 : List (Int × (Int × Int))) : Option ((List Int) × Bool) := b (l0 k) (impl_IsPuzzle.f k) (impl_solutions.f k) a0
theorem e (K : Nat) (a0 : List (Int × (Int × Int))) : p (K + 1) a0 = b (q0 K K) (impl_IsPuzzle.p K) (impl_solutions.p K) a0 := PI_at Cx (by kernel_rfl)
theorem e0 (K m : Nat) (x0 x1 x2 : Int) (x3 : List (Int × (Int × Int))) (x4 : List Int) : q0 K (m + 1) x0 x1 x2 x3 x4 = b0 (q0 K m) (impl_withoutClue.p K) (impl_solutions.p K) x0 x1 x2 x3 x4 := by kernel_rfl
theorem kl (n : Nat) : ∀ K, n + 8 ≤ K → (∀ m, n ≤ m → ∀ (x0 x1 x2 : Int) (x3 : List (Int × (Int × Int))) (x4 : List Int), Le (l0 n x0 x1 x2 x3 x4) (q0 K m x0 x1 x2 x3 x4)) := by
 induction n with
 | zero => exact fun K _ => fun _ _ _ _ _ _ _ => Le.none
 | succ n ih =>
  intro K hK
  have ih := ih K (by omega)
  intro m hm x0 x1 x2 x3 x4
  obtain ⟨m, rfl⟩ := pos_of_le hm
  rw [e0]
  show Le (b0 (l0 n) impl_withoutClue.f (impl_solutions.f n) x0 x1 x2 x3 x4) _
  unfold b0
  repeat' first | with_reducible apply Le.bind | with_reducible apply Le.ite | with_reducible exact Le.rfl | with_reducible refine ih _ ?_ _ _ _ _ _ | with_reducible refine impl_withoutClue.k ?_ _ _ | with_reducible refine impl_solutions.k ?_ _ | with_reducible intro _ | omega
theorem k {n K : Nat} (h : n + 9 ≤ K) (a0 : List (Int × (Int × Int))) : Le (f n a0) (p K a0) := by
 obtain ⟨K, rfl⟩ := pos_of_le (show 0 + 1 ≤ K by omega)
 have kl := kl n K (by omega)
 rw [e]
 unfold f b
 repeat' first | with_reducible apply Le.bind | with_reducible apply Le.ite | with_reducible exact Le.rfl | with_reducible refine kl _ ?_ _ _ _ _ _ | with_reducible refine impl_IsPuzzle.k ?_ _ | with_reducible refine impl_solutions.k ?_ _ | with_reducible intro _ | omega
end impl_NeedlessClues
namespace spec_pzWithout
noncomputable def p (K : Nat) (a0 : List (Int × (Int × Int))) (a1 : Int) : Option (List (Int × (Int × Int))) := PI Cx K 42 [.sv (.one (.sl 48 (.pair (.int .i64) (.pair (.int .i64) (.int .i64))) a0)), .sv (.one (.int .i64 a1))]
noncomputable def f (a0 : List (Int × (Int × Int))) (a1 : Int) : Option (List (Int × (Int × Int))) :=
 if 0 ≤ a1 then (if a1 ≤ (dlen a0) then (if (0 + (dlenN (List.take (Int.toNat a1) a0))) ≤ 5864062014805 then (if 0 ≤ (W (a1 + 1)) then (if (W (a1 + 1)) ≤ (dlen a0) then (if ((dlenN (([] : List (Int × (Int × Int))) ++ (List.take (Int.toNat a1) a0))) + (dlenN (List.drop (Int.toNat (W (a1 + 1))) a0))) ≤ 5864062014805 then (some ((([] : List (Int × (Int × Int))) ++ (List.take (Int.toNat a1) a0)) ++ (List.drop (Int.toNat (W (a1 + 1))) a0))) else (none)) else (none)) else (none)) else (none)) else (none)) else (none)
theorem e (K : Nat) (a0 : List (Int × (Int × Int))) (a1 : Int) : p (K + 1) a0 a1 = f a0 a1 := PI_at Cx (by kernel_rfl)
theorem k {K : Nat} (h : 1 ≤ K) (a0 : List (Int × (Int × Int))) (a1 : Int) : Le (f a0 a1) (p K a0 a1) := by
 obtain ⟨K, rfl⟩ := pos_of_le h
 rw [e]
 exact Le.rfl
end spec_pzWithout
namespace spec_NeedlessClues
noncomputable def p (K : Nat) (a0 : List (Int × (Int × Int))) : Option ((List Int) × Bool) := PI Cx K 16 [.sv (.agg [.sl 48 (.pair (.int .i64) (.pair (.int .i64) (.int .i64))) a0])]
noncomputable def q0 (K m : Nat) (x0 x1 x2 : Int) (x3 : List (Int × (Int × Int))) (x4 : List Int) : Option ((List Int) × Bool) := runAt Cx K 16 [true, true, true, true, false, true, true] [m] ⟨[(1, .sv (.one (.ptr 0 0))), (4, .sv (.one (.full 1000000004000))), (5, .sv (.one (.int .i64 x0))), (16, .sv (.one (.int .i64 x1))), (17, .sv (.one (.int .i64 x2)))], [(0, .box 24 [.sl 48 (.pair (.int .i64) (.pair (.int .i64) (.int .i64))) x3]), (1000000004000, .row 3 (.int .i64) x4 .own)], []⟩
noncomputable def b (L0 : Int → Int → Int → List (Int × (Int × Int)) → List Int → Option ((List Int) × Bool)) (g0 : List (Int × (Int × Int)) → Option Bool) (g1 : List (Int × (Int × Int)) → Option (List (Int × Int))) (a0 : List (Int × (Int × Int))) : Option ((List Int) × Bool) :=
 (g0 a0).bind fun t0 =>
 if (!t0) = true then (some (([] : List Int), false)) else ((g1 a0).bind fun t1 =>
 L0 (dlen t1) (dlen a0) 0 a0 ([] : List Int))
noncomputable def b0 (L0 : Int → Int → Int → List (Int × (Int × Int)) → List Int → Option ((List Int) × Bool)) (g2 : List (Int × (Int × Int)) → Int → Option (List (Int × (Int × Int)))) (g1 : List (Int × (Int × Int)) → Option (List (Int × Int))) (x0 x1 x2 : Int) (x3 : List (Int × (Int × Int))) (x4 : List Int) : Option ((List Int) × Bool) :=
 if (decide (x2 < x1)) = true then ((g2 x3 x2).bind fun t0 =>
 (g1 t0).bind fun t1 =>
 if ((dlen t1) == x0) = true then (if ((dlenN x4) + 1) ≤ 17592186044416 then (L0 x0 x1 (W (x2 + 1)) x3 (x4 ++ [x2])) else (none)) else (L0 x0 x1 (W (x2 + 1)) x3 x4)) else (some (x4, true))
noncomputable def l0 : Nat → Int → Int → Int → List (Int × (Int × Int)) → List Int → Option ((List Int) × Bool)
 | 0, _, _, _, _, _ => none
 | k + 1, x0, x1, x2, x3, x4 => b0 (l0 k) spec_pzWithout.f (spec_pzAll.f k) x0 x1 x2 x3 x4
noncomputable def f (k : Nat) (a0 : List (Int × (Int × Int))) : Option ((List Int) × Bool) := b (l0 k) (spec_pzGood.f k) (spec_pzAll.f k) a0
theorem e (K : Nat) (a0 : List (Int × (Int × Int))) : p (K + 1) a0 = b (q0 K K) (spec_pzGood.p K) (spec_pzAll.p K) a0 := PI_at Cx (by kernel_rfl)
theorem e0 (K m : Nat) (x0 x1 x2 : Int) (x3 : List (Int × (Int × Int))) (x4 : List Int) : q0 K (m + 1) x0 x1 x2 x3 x4 = b0 (q0 K m) (spec_pzWithout.p K) (spec_pzAll.p K) x0 x1 x2 x3 x4 := by kernel_rfl
theorem kl (n : Nat) : ∀ K, n + 4 ≤ K → (∀ m, n ≤ m → ∀ (x0 x1 x2 : Int) (x3 : List (Int × (Int × Int))) (x4 : List Int), Le (l0 n x0 x1 x2 x3 x4) (q0 K m x0 x1 x2 x3 x4)) := by
 induction n with
 | zero => exact fun K _ => fun _ _ _ _ _ _ _ => Le.none
 | succ n ih =>
  intro K hK
  have ih := ih K (by omega)
  intro m hm x0 x1 x2 x3 x4
  obtain ⟨m, rfl⟩ := pos_of_le hm
  rw [e0]
  show Le (b0 (l0 n) spec_pzWithout.f (spec_pzAll.f n) x0 x1 x2 x3 x4) _
  unfold b0
  repeat' first | with_reducible apply Le.bind | with_reducible apply Le.ite | with_reducible exact Le.rfl | with_reducible refine ih _ ?_ _ _ _ _ _ | with_reducible refine spec_pzWithout.k ?_ _ _ | with_reducible refine spec_pzAll.k ?_ _ | with_reducible intro _ | omega
theorem k {n K : Nat} (h : n + 5 ≤ K) (a0 : List (Int × (Int × Int))) : Le (f n a0) (p K a0) := by
 obtain ⟨K, rfl⟩ := pos_of_le (show 0 + 1 ≤ K by omega)
 have kl := kl n K (by omega)
 rw [e]
 unfold f b
 repeat' first | with_reducible apply Le.bind | with_reducible apply Le.ite | with_reducible exact Le.rfl | with_reducible refine kl _ ?_ _ _ _ _ _ | with_reducible refine spec_pzGood.k ?_ _ | with_reducible refine spec_pzAll.k ?_ _ | with_reducible intro _ | omega
end spec_NeedlessClues
namespace impl_LeftByClues
noncomputable def p (K : Nat) (a0 : List (Int × (Int × Int))) : Option ((List Int) × Bool) := PI Cx K 17 [.sv (.agg [.sl 48 (.pair (.int .i64) (.pair (.int .i64) (.int .i64))) a0])]
noncomputable def q0 (K m : Nat) (x0 x1 : Int) (x2 : List (Int × (Int × Int))) (x3 : List Int) : Option ((List Int) × Bool) := runAt Cx K 17 [true, true, true, false, true, true] [m] ⟨[(1, .sv (.one (.ptr 0 0))), (4, .sv (.one (.full 1000000004000))), (12, .sv (.one (.int .i64 x0))), (13, .sv (.one (.int .i64 x1)))], [(0, .box 24 [.sl 48 (.pair (.int .i64) (.pair (.int .i64) (.int .i64))) x2]), (1000000004000, .row 3 (.int .i64) x3 .own)], []⟩
noncomputable def b (L0 : Int → Int → List (Int × (Int × Int)) → List Int → Option ((List Int) × Bool)) (g0 : List (Int × (Int × Int)) → Option Bool) (a0 : List (Int × (Int × Int))) : Option ((List Int) × Bool) :=
 (g0 a0).bind fun t0 =>
 if (!t0) = true then (some (([] : List Int), false)) else (L0 (W ((dlen a0) + 1)) 0 a0 ([] : List Int))
noncomputable def b0 (L0 : Int → Int → List (Int × (Int × Int)) → List Int → Option ((List Int) × Bool)) (g1 : List (Int × (Int × Int)) → Option (List (Int × Int))) (x0 x1 : Int) (x2 : List (Int × (Int × Int))) (x3 : List Int) : Option ((List Int) × Bool) :=
 if (decide (x1 < x0)) = true then (if 0 ≤ x1 then (if x1 ≤ (dlen x2) then ((g1 (List.take (Int.toNat x1) x2)).bind fun t0 =>
 if ((dlenN x3) + 1) ≤ 17592186044416 then (L0 x0 (W (x1 + 1)) x2 (x3 ++ [(dlen t0)])) else (none)) else (none)) else (none)) else (some (x3, true))
noncomputable def l0 : Nat → Int → Int → List (Int × (Int × Int)) → List Int → Option ((List Int) × Bool)
 | 0, _, _, _, _ => none
 | k + 1, x0, x1, x2, x3 => b0 (l0 k) (impl_solutions.f k) x0 x1 x2 x3
noncomputable def f (k : Nat) (a0 : List (Int × (Int × Int))) : Option ((List Int) × Bool) := b (l0 k) (impl_IsPuzzle.f k) a0
theorem e (K : Nat) (a0 : List (Int × (Int × Int))) : p (K + 1) a0 = b (q0 K K) (impl_IsPuzzle.p K) a0 := PI_at Cx (by kernel_rfl)
theorem e0 (K m : Nat) (x0 x1 : Int) (x2 : List (Int × (Int × Int))) (x3 : List Int) : q0 K (m + 1) x0 x1 x2 x3 = b0 (q0 K m) (impl_solutions.p K) x0 x1 x2 x3 := by kernel_rfl
theorem kl (n : Nat) : ∀ K, n + 8 ≤ K → (∀ m, n ≤ m → ∀ (x0 x1 : Int) (x2 : List (Int × (Int × Int))) (x3 : List Int), Le (l0 n x0 x1 x2 x3) (q0 K m x0 x1 x2 x3)) := by
 induction n with
 | zero => exact fun K _ => fun _ _ _ _ _ _ => Le.none
 | succ n ih =>
  intro K hK
  have ih := ih K (by omega)
  intro m hm x0 x1 x2 x3
  obtain ⟨m, rfl⟩ := pos_of_le hm
  rw [e0]
  show Le (b0 (l0 n) (impl_solutions.f n) x0 x1 x2 x3) _
  unfold b0
  repeat' first | with_reducible apply Le.bind | with_reducible apply Le.ite | with_reducible exact Le.rfl | with_reducible refine ih _ ?_ _ _ _ _ | with_reducible refine impl_solutions.k ?_ _ | with_reducible intro _ | omega
theorem k {n K : Nat} (h : n + 9 ≤ K) (a0 : List (Int × (Int × Int))) : Le (f n a0) (p K a0) := by
 obtain ⟨K, rfl⟩ := pos_of_le (show 0 + 1 ≤ K by omega)
 have kl := kl n K (by omega)
 rw [e]
 unfold f b
 repeat' first | with_reducible apply Le.bind | with_reducible apply Le.ite | with_reducible exact Le.rfl | with_reducible refine kl _ ?_ _ _ _ _ | with_reducible refine impl_IsPuzzle.k ?_ _ | with_reducible intro _ | omega
end impl_LeftByClues
namespace spec_LeftByClues
noncomputable def p (K : Nat) (a0 : List (Int × (Int × Int))) : Option ((List Int) × Bool) := PI Cx K 18 [.sv (.agg [.sl 48 (.pair (.int .i64) (.pair (.int .i64) (.int .i64))) a0])]
noncomputable def q0 (K m : Nat) (x0 : Int) (x1 : List (Int × (Int × Int))) (x2 : List Int) : Option ((List Int) × Bool) := runAt Cx K 18 [true, true, true, false, true, true] [m] ⟨[(1, .sv (.one (.ptr 0 0))), (4, .sv (.one (.full 1000000004000))), (5, .sv (.one (.int .i64 x0)))], [(0, .box 24 [.sl 48 (.pair (.int .i64) (.pair (.int .i64) (.int .i64))) x1]), (1000000004000, .row 3 (.int .i64) x2 .own)], []⟩
noncomputable def b (L0 : Int → List (Int × (Int × Int)) → List Int → Option ((List Int) × Bool)) (g0 : List (Int × (Int × Int)) → Option Bool) (a0 : List (Int × (Int × Int))) : Option ((List Int) × Bool) :=
 (g0 a0).bind fun t0 =>
 if (!t0) = true then (some (([] : List Int), false)) else (L0 0 a0 ([] : List Int))
noncomputable def b0 (L0 : Int → List (Int × (Int × Int)) → List Int → Option ((List Int) × Bool)) (g1 : List (Int × (Int × Int)) → Option (List (Int × Int))) (x0 : Int) (x1 : List (Int × (Int × Int))) (x2 : List Int) : Option ((List Int) × Bool) :=
 if (decide (x0 ≤ (dlen x1))) = true then (if 0 ≤ x0 then (if x0 ≤ (dlen x1) then ((g1 (List.take (Int.toNat x0) x1)).bind fun t0 =>
 if ((dlenN x2) + 1) ≤ 17592186044416 then (L0 (W (x0 + 1)) x1 (x2 ++ [(dlen t0)])) else (none)) else (none)) else (none)) else (some (x2, true))
noncomputable def l0 : Nat → Int → List (Int × (Int × Int)) → List Int → Option ((List Int) × Bool)
 | 0, _, _, _ => none
 | k + 1, x0, x1, x2 => b0 (l0 k) (spec_pzAll.f k) x0 x1 x2
noncomputable def f (k : Nat) (a0 : List (Int × (Int × Int))) : Option ((List Int) × Bool) := b (l0 k) (spec_pzGood.f k) a0
theorem e (K : Nat) (a0 : List (Int × (Int × Int))) : p (K + 1) a0 = b (q0 K K) (spec_pzGood.p K) a0 := PI_at Cx (by kernel_rfl)
theorem e0 (K m : Nat) (x0 : Int) (x1 : List (Int × (Int × Int))) (x2 : List Int) : q0 K (m + 1) x0 x1 x2 = b0 (q0 K m) (spec_pzAll.p K) x0 x1 x2 := by kernel_rfl
theorem kl (n : Nat) : ∀ K, n + 4 ≤ K → (∀ m, n ≤ m → ∀ (x0 : Int) (x1 : List (Int × (Int × Int))) (x2 : List Int), Le (l0 n x0 x1 x2) (q0 K m x0 x1 x2)) := by
 induction n with
 | zero => exact fun K _ => fun _ _ _ _ _ => Le.none
 | succ n ih =>
  intro K hK
  have ih := ih K (by omega)
  intro m hm x0 x1 x2
  obtain ⟨m, rfl⟩ := pos_of_le hm
  rw [e0]
  show Le (b0 (l0 n) (spec_pzAll.f n) x0 x1 x2) _
  unfold b0
  repeat' first | with_reducible apply Le.bind | with_reducible apply Le.ite | with_reducible exact Le.rfl | with_reducible refine ih _ ?_ _ _ _ | with_reducible refine spec_pzAll.k ?_ _ | with_reducible intro _ | omega
theorem k {n K : Nat} (h : n + 5 ≤ K) (a0 : List (Int × (Int × Int))) : Le (f n a0) (p K a0) := by
 obtain ⟨K, rfl⟩ := pos_of_le (show 0 + 1 ≤ K by omega)
 have kl := kl n K (by omega)
 rw [e]
 unfold f b
 repeat' first | with_reducible apply Le.bind | with_reducible apply Le.ite | with_reducible exact Le.rfl | with_reducible refine kl _ ?_ _ _ _ | with_reducible refine spec_pzGood.k ?_ _ | with_reducible intro _ | omega
end spec_LeftByClues
namespace impl_BestClue
noncomputable def p (K : Nat) (a0 : List (Int × (Int × Int))) : Option (Int × Bool) := PI Cx K 19 [.sv (.agg [.sl 48 (.pair (.int .i64) (.pair (.int .i64) (.int .i64))) a0])]
noncomputable def q0 (K m : Nat) (x0 x1 x2 x3 : Int) (x4 : List (Int × (Int × Int))) : Option (Int × Bool) := runAt Cx K 19 [true, true, true, false, true, true] [m] ⟨[(1, .sv (.one (.ptr 0 0))), (4, .sv (.one (.int .i64 x0))), (5, .sv (.one (.int .i64 x1))), (19, .sv (.one (.int .i64 x2))), (20, .sv (.one (.int .i64 x3)))], [(0, .box 24 [.sl 48 (.pair (.int .i64) (.pair (.int .i64) (.int .i64))) x4])], []⟩
noncomputable def b (L0 : Int → Int → Int → Int → List (Int × (Int × Int)) → Option (Int × Bool)) (g0 : List (Int × (Int × Int)) → Option Bool) (a0 : List (Int × (Int × Int))) : Option (Int × Bool) :=
 (g0 a0).bind fun t0 =>
 if (!t0) = true then (some (0, false)) else (if ((dlen a0) == 0) = true then (some (0, false)) else (L0 (-1) 0 (dlen a0) 0 a0))
noncomputable def b0 (L0 : Int → Int → Int → Int → List (Int × (Int × Int)) → Option (Int × Bool)) (g1 : List (Int × (Int × Int)) → Option (List (Int × Int))) (x0 x1 x2 x3 : Int) (x4 : List (Int × (Int × Int))) : Option (Int × Bool) :=
 if (decide (x3 < x2)) = true then (if 0 ≤ x3 then (if x3 ≤ (W (x3 + 1)) then (if (W (x3 + 1)) ≤ (dlen x4) then ((g1 (List.drop (Int.toNat x3) (List.take (Int.toNat (W (x3 + 1))) x4))).bind fun t0 =>
 if (decide (x0 < 0)) = true then (L0 x3 (dlen t0) x2 (W (x3 + 1)) x4) else (if (decide ((dlen t0) < x1)) = true then (L0 x3 (dlen t0) x2 (W (x3 + 1)) x4) else (L0 x0 x1 x2 (W (x3 + 1)) x4))) else (none)) else (none)) else (none)) else (some (x0, true))
noncomputable def l0 : Nat → Int → Int → Int → Int → List (Int × (Int × Int)) → Option (Int × Bool)
 | 0, _, _, _, _, _ => none
 | k + 1, x0, x1, x2, x3, x4 => b0 (l0 k) (impl_solutions.f k) x0 x1 x2 x3 x4
noncomputable def f (k : Nat) (a0 : List (Int × (Int × Int))) : Option (Int × Bool) := b (l0 k) (impl_IsPuzzle.f k) a0
theorem e (K : Nat) (a0 : List (Int × (Int × Int))) : p (K + 1) a0 = b (q0 K K) (impl_IsPuzzle.p K) a0 := PI_at Cx (by kernel_rfl)
theorem e0 (K m : Nat) (x0 x1 x2 x3 : Int) (x4 : List (Int × (Int × Int))) : q0 K (m + 1) x0 x1 x2 x3 x4 = b0 (q0 K m) (impl_solutions.p K) x0 x1 x2 x3 x4 := by kernel_rfl
theorem kl (n : Nat) : ∀ K, n + 8 ≤ K → (∀ m, n ≤ m → ∀ (x0 x1 x2 x3 : Int) (x4 : List (Int × (Int × Int))), Le (l0 n x0 x1 x2 x3 x4) (q0 K m x0 x1 x2 x3 x4)) := by
 induction n with
 | zero => exact fun K _ => fun _ _ _ _ _ _ _ => Le.none
 | succ n ih =>
  intro K hK
  have ih := ih K (by omega)
  intro m hm x0 x1 x2 x3 x4
  obtain ⟨m, rfl⟩ := pos_of_le hm
  rw [e0]
  show Le (b0 (l0 n) (impl_solutions.f n) x0 x1 x2 x3 x4) _
  unfold b0
  repeat' first | with_reducible apply Le.bind | with_reducible apply Le.ite | with_reducible exact Le.rfl | with_reducible refine ih _ ?_ _ _ _ _ _ | with_reducible refine impl_solutions.k ?_ _ | with_reducible intro _ | omega
theorem k {n K : Nat} (h : n + 9 ≤ K) (a0 : List (Int × (Int × Int))) : Le (f n a0) (p K a0) := by
 obtain ⟨K, rfl⟩ := pos_of_le (show 0 + 1 ≤ K by omega)
 have kl := kl n K (by omega)
 rw [e]
 unfold f b
 repeat' first | with_reducible apply Le.bind | with_reducible apply Le.ite | with_reducible exact Le.rfl | with_reducible refine kl _ ?_ _ _ _ _ _ | with_reducible refine impl_IsPuzzle.k ?_ _ | with_reducible intro _ | omega
end impl_BestClue
namespace spec_BestClue
noncomputable def p (K : Nat) (a0 : List (Int × (Int × Int))) : Option (Int × Bool) := PI Cx K 20 [.sv (.agg [.sl 48 (.pair (.int .i64) (.pair (.int .i64) (.int .i64))) a0])]
noncomputable def q0 (K m : Nat) (x0 x1 x2 x3 : Int) (x4 : List (Int × (Int × Int))) : Option (Int × Bool) := runAt Cx K 20 [true, true, true, false, true, true] [m] ⟨[(1, .sv (.one (.ptr 0 0))), (4, .sv (.one (.int .i64 x0))), (5, .sv (.one (.int .i64 x1))), (19, .sv (.one (.int .i64 x2))), (20, .sv (.one (.int .i64 x3)))], [(0, .box 24 [.sl 48 (.pair (.int .i64) (.pair (.int .i64) (.int .i64))) x4])], []⟩
noncomputable def b (L0 : Int → Int → Int → Int → List (Int × (Int × Int)) → Option (Int × Bool)) (g0 : List (Int × (Int × Int)) → Option Bool) (a0 : List (Int × (Int × Int))) : Option (Int × Bool) :=
 (g0 a0).bind fun t0 =>
 if (!t0) = true then (some (0, false)) else (if ((dlen a0) == 0) = true then (some (0, false)) else (L0 0 0 (dlen a0) 0 a0))
noncomputable def b0 (L0 : Int → Int → Int → Int → List (Int × (Int × Int)) → Option (Int × Bool)) (g1 : List (Int × (Int × Int)) → Option (List (Int × Int))) (x0 x1 x2 x3 : Int) (x4 : List (Int × (Int × Int))) : Option (Int × Bool) :=
 if (decide (x3 < x2)) = true then (if 0 ≤ x3 then (if x3 ≤ (W (x3 + 1)) then (if (W (x3 + 1)) ≤ (dlen x4) then ((g1 (List.drop (Int.toNat x3) (List.take (Int.toNat (W (x3 + 1))) x4))).bind fun t0 =>
 if (x3 == 0) = true then (L0 x3 (dlen t0) x2 (W (x3 + 1)) x4) else (if (decide ((dlen t0) < x1)) = true then (L0 x3 (dlen t0) x2 (W (x3 + 1)) x4) else (L0 x0 x1 x2 (W (x3 + 1)) x4))) else (none)) else (none)) else (none)) else (some (x0, true))
noncomputable def l0 : Nat → Int → Int → Int → Int → List (Int × (Int × Int)) → Option (Int × Bool)
 | 0, _, _, _, _, _ => none
 | k + 1, x0, x1, x2, x3, x4 => b0 (l0 k) (spec_pzAll.f k) x0 x1 x2 x3 x4
noncomputable def f (k : Nat) (a0 : List (Int × (Int × Int))) : Option (Int × Bool) := b (l0 k) (spec_pzGood.f k) a0
theorem e (K : Nat) (a0 : List (Int × (Int × Int))) : p (K + 1) a0 = b (q0 K K) (spec_pzGood.p K) a0 := PI_at Cx (by kernel_rfl)
theorem e0 (K m : Nat) (x0 x1 x2 x3 : Int) (x4 : List (Int × (Int × Int))) : q0 K (m + 1) x0 x1 x2 x3 x4 = b0 (q0 K m) (spec_pzAll.p K) x0 x1 x2 x3 x4 := by kernel_rfl
theorem kl (n : Nat) : ∀ K, n + 4 ≤ K → (∀ m, n ≤ m → ∀ (x0 x1 x2 x3 : Int) (x4 : List (Int × (Int × Int))), Le (l0 n x0 x1 x2 x3 x4) (q0 K m x0 x1 x2 x3 x4)) := by
 induction n with
 | zero => exact fun K _ => fun _ _ _ _ _ _ _ => Le.none
 | succ n ih =>
  intro K hK
  have ih := ih K (by omega)
  intro m hm x0 x1 x2 x3 x4
  obtain ⟨m, rfl⟩ := pos_of_le hm
  rw [e0]
  show Le (b0 (l0 n) (spec_pzAll.f n) x0 x1 x2 x3 x4) _
  unfold b0
  repeat' first | with_reducible apply Le.bind | with_reducible apply Le.ite | with_reducible exact Le.rfl | with_reducible refine ih _ ?_ _ _ _ _ _ | with_reducible refine spec_pzAll.k ?_ _ | with_reducible intro _ | omega
theorem k {n K : Nat} (h : n + 5 ≤ K) (a0 : List (Int × (Int × Int))) : Le (f n a0) (p K a0) := by
 obtain ⟨K, rfl⟩ := pos_of_le (show 0 + 1 ≤ K by omega)
 have kl := kl n K (by omega)
 rw [e]
 unfold f b
 repeat' first | with_reducible apply Le.bind | with_reducible apply Le.ite | with_reducible exact Le.rfl | with_reducible refine kl _ ?_ _ _ _ _ _ | with_reducible refine spec_pzGood.k ?_ _ | with_reducible intro _ | omega
end spec_BestClue
namespace strconv_Itoa
noncomputable def p (K : Nat) (a0 : Int) : Option ByteArray := PI Cx K 64 [.sv (.one (.int .i64 a0))]
noncomputable def f (a0 : Int) : Option ByteArray := handItoa a0
theorem e (K : Nat) (a0 : Int) : p (K + 1) a0 = f a0 := PI_at Cx (by kernel_rfl)
theorem k {K : Nat} (h : 1 ≤ K) (a0 : Int) : Le (f a0) (p K a0) := by
 obtain ⟨K, rfl⟩ := pos_of_le h
 rw [e]
 exact Le.rfl
end strconv_Itoa
namespace strings_Join
noncomputable def p (K : Nat) (a0 : List ByteArray) (a1 : ByteArray) : Option ByteArray := PI Cx K 44 [.sv (.one (.sl 9 (.str) a0)), .sv (.one (.str a1))]
noncomputable def f (a0 : List ByteArray) (a1 : ByteArray) : Option ByteArray := handJoin a0 a1
theorem e (K : Nat) (a0 : List ByteArray) (a1 : ByteArray) : p (K + 1) a0 a1 = f a0 a1 := PI_at Cx (by kernel_rfl)
theorem k {K : Nat} (h : 1 ≤ K) (a0 : List ByteArray) (a1 : ByteArray) : Le (f a0 a1) (p K a0 a1) := by
 obtain ⟨K, rfl⟩ := pos_of_le h
 rw [e]
 exact Le.rfl
end strings_Join
namespace impl_joinNumbers
noncomputable def p (K : Nat) (a0 : List Int) (a1 : ByteArray) : Option ByteArray := PI Cx K 43 [.sv (.one (.sl 3 (.int .i64) a0)), .sv (.one (.str a1))]
noncomputable def q0 (K m : Nat) (x0 : ByteArray) (x1 : List Int) (x2 x3 : Int) (x4 : List ByteArray) : Option ByteArray := runAt Cx K 43 [true, true, false, true, true] [m] ⟨[(1, .sv (.one (.str x0))), (5, .sv (.one (.full 1000000005000))), (11, .sv (.one (.sl 3 (.int .i64) x1))), (12, .sv (.one (.int .i64 x2))), (13, .sv (.one (.int .i64 x3)))], [(1000000005000, .row 9 (.str) x4 .own)], []⟩
noncomputable def b (L0 : ByteArray → List Int → Int → Int → List ByteArray → Option ByteArray) (a0 : List Int) (a1 : ByteArray) : Option ByteArray :=
 if 0 ≤ (dlen a0) then (if (dlen a0) ≤ (dlen a0) then (if ((dlen a0) * 16) ≤ 140737488355328 then (L0 a1 a0 (dlen a0) 0 (List.replicate (Int.toNat (dlen a0)) (bs []))) else (none)) else (none)) else (none)
noncomputable def b0 (L0 : ByteArray → List Int → Int → Int → List ByteArray → Option ByteArray) (g0 : Int → Option ByteArray) (g1 : List ByteArray → ByteArray → Option ByteArray) (x0 : ByteArray) (x1 : List Int) (x2 x3 : Int) (x4 : List ByteArray) : Option ByteArray :=
 if (decide (x3 < x2)) = true then (if 0 ≤ x3 then (if x3 < (dlen x1) then ((g0 (rd 0 x1 x3)).bind fun t0 =>
 if 0 ≤ x3 then (if x3 < (dlen x4) then (L0 x0 x1 x2 (W (x3 + 1)) (List.set x4 (Int.toNat x3) t0)) else (none)) else (none)) else (none)) else (none)) else ((g1 x4 x0).bind fun t0 =>
 some t0)
noncomputable def l0 : Nat → ByteArray → List Int → Int → Int → List ByteArray → Option ByteArray
 | 0, _, _, _, _, _ => none
 | k + 1, x0, x1, x2, x3, x4 => b0 (l0 k) strconv_Itoa.f strings_Join.f x0 x1 x2 x3 x4
noncomputable def f (k : Nat) (a0 : List Int) (a1 : ByteArray) : Option ByteArray := b (l0 k) a0 a1
theorem e (K : Nat) (a0 : List Int) (a1 : ByteArray) : p (K + 1) a0 a1 = b (q0 K K) a0 a1 := PI_at Cx (by kernel_rfl)
theorem e0 (K m : Nat) (x0 : ByteArray) (x1 : List Int) (x2 x3 : Int) (x4 : List ByteArray) : q0 K (m + 1) x0 x1 x2 x3 x4 = b0 (q0 K m) (strconv_Itoa.p K) (strings_Join.p K) x0 x1 x2 x3 x4 := by kernel_rfl
theorem kl (n : Nat) : ∀ K, n + 1 ≤ K → (∀ m, n ≤ m → ∀ (x0 : ByteArray) (x1 : List Int) (x2 x3 : Int) (x4 : List ByteArray), Le (l0 n x0 x1 x2 x3 x4) (q0 K m x0 x1 x2 x3 x4)) := by
 induction n with
 | zero => exact fun K _ => fun _ _ _ _ _ _ _ => Le.none
 | succ n ih =>
  intro K hK
  have ih := ih K (by omega)
  intro m hm x0 x1 x2 x3 x4
  obtain ⟨m, rfl⟩ := pos_of_le hm
  rw [e0]
  show Le (b0 (l0 n) strconv_Itoa.f strings_Join.f x0 x1 x2 x3 x4) _
  unfold b0
  repeat' first | with_reducible apply Le.bind | with_reducible apply Le.ite | with_reducible exact Le.rfl | with_reducible refine ih _ ?_ _ _ _ _ _ | with_reducible refine strconv_Itoa.k ?_ _ | with_reducible refine strings_Join.k ?_ _ _ | with_reducible intro _ | omega
theorem k {n K : Nat} (h : n + 2 ≤ K) (a0 : List Int) (a1 : ByteArray) : Le (f n a0 a1) (p K a0 a1) := by
 obtain ⟨K, rfl⟩ := pos_of_le (show 0 + 1 ≤ K by omega)
 have kl := kl n K (by omega)
 rw [e]
 unfold f b
 repeat' first | with_reducible apply Le.bind | with_reducible apply Le.ite | with_reducible exact Le.rfl | with_reducible refine kl _ ?_ _ _ _ _ _ | with_reducible intro _ | omega
end impl_joinNumbers
namespace impl_PuzzleText
noncomputable def p (K : Nat) (a0 : List (Int × (Int × Int))) : Option (ByteArray × Bool) := PI Cx K 21 [.sv (.agg [.sl 48 (.pair (.int .i64) (.pair (.int .i64) (.int .i64))) a0])]
noncomputable def q0 (K m : Nat) (x0 : List (Int × (Int × Int))) (x1 x2 : Int) (x3 : List ByteArray) : Option (ByteArray × Bool) := runAt Cx K 21 [true, true, true, false, true, true] [m] ⟨[(4, .sv (.one (.full 1000000004000))), (15, .sv (.one (.sl 48 (.pair (.int .i64) (.pair (.int .i64) (.int .i64))) x0))), (16, .sv (.one (.int .i64 x1))), (17, .sv (.one (.int .i64 x2)))], [(1000000004000, .row 9 (.str) x3 .own)], []⟩
noncomputable def b (L0 : List (Int × (Int × Int)) → Int → Int → List ByteArray → Option (ByteArray × Bool)) (g0 : List (Int × (Int × Int)) → Option Bool) (a0 : List (Int × (Int × Int))) : Option (ByteArray × Bool) :=
 (g0 a0).bind fun t0 =>
 if (!t0) = true then (some ((bs []), false)) else (if 0 ≤ (dlen a0) then (if (dlen a0) ≤ (dlen a0) then (if ((dlen a0) * 16) ≤ 140737488355328 then (L0 a0 (dlen a0) 0 (List.replicate (Int.toNat (dlen a0)) (bs []))) else (none)) else (none)) else (none))
noncomputable def b0 (L0 : List (Int × (Int × Int)) → Int → Int → List ByteArray → Option (ByteArray × Bool)) (g1 : List Int → ByteArray → Option ByteArray) (g2 : List ByteArray → ByteArray → Option ByteArray) (x0 : List (Int × (Int × Int))) (x1 x2 : Int) (x3 : List ByteArray) : Option (ByteArray × Bool) :=
 if (decide (x2 < x1)) = true then (if 0 ≤ x2 then (if x2 < (dlen x0) then ((g1 [(rd (0, (0, 0)) x0 x2).1, (rd (0, (0, 0)) x0 x2).2.1, (rd (0, (0, 0)) x0 x2).2.2] (bs [46])).bind fun t0 =>
 if 0 ≤ x2 then (if x2 < (dlen x3) then (L0 x0 x1 (W (x2 + 1)) (List.set x3 (Int.toNat x2) t0)) else (none)) else (none)) else (none)) else (none)) else ((g2 x3 (bs [44])).bind fun t0 =>
 some (t0, true))
noncomputable def l0 : Nat → List (Int × (Int × Int)) → Int → Int → List ByteArray → Option (ByteArray × Bool)
 | 0, _, _, _, _ => none
 | k + 1, x0, x1, x2, x3 => b0 (l0 k) (impl_joinNumbers.f k) strings_Join.f x0 x1 x2 x3
noncomputable def f (k : Nat) (a0 : List (Int × (Int × Int))) : Option (ByteArray × Bool) := b (l0 k) (impl_IsPuzzle.f k) a0
theorem e (K : Nat) (a0 : List (Int × (Int × Int))) : p (K + 1) a0 = b (q0 K K) (impl_IsPuzzle.p K) a0 := PI_at Cx (by kernel_rfl)
theorem e0 (K m : Nat) (x0 : List (Int × (Int × Int))) (x1 x2 : Int) (x3 : List ByteArray) : q0 K (m + 1) x0 x1 x2 x3 = b0 (q0 K m) (impl_joinNumbers.p K) (strings_Join.p K) x0 x1 x2 x3 := by kernel_rfl
theorem kl (n : Nat) : ∀ K, n + 6 ≤ K → (∀ m, n ≤ m → ∀ (x0 : List (Int × (Int × Int))) (x1 x2 : Int) (x3 : List ByteArray), Le (l0 n x0 x1 x2 x3) (q0 K m x0 x1 x2 x3)) := by
 induction n with
 | zero => exact fun K _ => fun _ _ _ _ _ _ => Le.none
 | succ n ih =>
  intro K hK
  have ih := ih K (by omega)
  intro m hm x0 x1 x2 x3
  obtain ⟨m, rfl⟩ := pos_of_le hm
  rw [e0]
  show Le (b0 (l0 n) (impl_joinNumbers.f n) strings_Join.f x0 x1 x2 x3) _
  unfold b0
  repeat' first | with_reducible apply Le.bind | with_reducible apply Le.ite | with_reducible exact Le.rfl | with_reducible refine ih _ ?_ _ _ _ _ | with_reducible refine impl_joinNumbers.k ?_ _ _ | with_reducible refine strings_Join.k ?_ _ _ | with_reducible intro _ | omega
theorem k {n K : Nat} (h : n + 7 ≤ K) (a0 : List (Int × (Int × Int))) : Le (f n a0) (p K a0) := by
 obtain ⟨K, rfl⟩ := pos_of_le (show 0 + 1 ≤ K by omega)
 have kl := kl n K (by omega)
 rw [e]
 unfold f b
 repeat' first | with_reducible apply Le.bind | with_reducible apply Le.ite | with_reducible exact Le.rfl | with_reducible refine kl _ ?_ _ _ _ _ | with_reducible refine impl_IsPuzzle.k ?_ _ | with_reducible intro _ | omega
end impl_PuzzleText
namespace spec_l1Num
noncomputable def p (K : Nat) (a0 : Int) : Option ByteArray := PI Cx K 68 [.sv (.one (.int .i64 a0))]
noncomputable def b (g0 : Int → Option ByteArray) (a0 : Int) : Option ByteArray :=
 if (decide (a0 < 10)) = true then (some (bytesOf [(IntKind.wrap .u8 (W (48 + a0)))])) else ((g0 (W (Int.tdiv a0 10))).bind fun t0 =>
 if ((ByteArray.size t0) + (ByteArray.size (bytesOf [(IntKind.wrap .u8 (W (48 + (Int.tmod a0 10))))]))) ≤ maxLen then (some (t0 ++ (bytesOf [(IntKind.wrap .u8 (W (48 + (Int.tmod a0 10))))]))) else (none))
noncomputable def f : Nat → Int → Option ByteArray
 | 0, _ => none
 | k + 1, a0 => b (f k) a0
theorem e (K : Nat) (a0 : Int) : p (K + 1) a0 = b (p K) a0 := PI_at Cx (by kernel_rfl)
theorem k {n : Nat} : ∀ {K : Nat}, n + 1 ≤ K → ∀ (a0 : Int), Le (f n a0) (p K a0) := by
 induction n with
 | zero => exact fun _ _ => Le.none
 | succ n ih =>
  intro K h a0
  obtain ⟨K, rfl⟩ := pos_of_le (show 0 + 1 ≤ K by omega)
  rw [e]
  show Le (b (f n) a0) _
  unfold b
  repeat' first | with_reducible apply Le.bind | with_reducible apply Le.ite | with_reducible exact Le.rfl | with_reducible refine ih ?_ _ | with_reducible intro _ | omega
end spec_l1Num
namespace spec_l1Most
noncomputable def p (K : Nat) (a0 a1 : Int) : Option Int := PI Cx K 85 [.sv (.one (.int .i64 a0)), .sv (.one (.int .i64 a1))]
noncomputable def f (a0 a1 : Int) : Option Int :=
 if (decide (a0 > a1)) = true then (some a0) else (some a1)
theorem e (K : Nat) (a0 a1 : Int) : p (K + 1) a0 a1 = f a0 a1 := PI_at Cx (by kernel_rfl)
theorem k {K : Nat} (h : 1 ≤ K) (a0 a1 : Int) : Le (f a0 a1) (p K a0 a1) := by
 obtain ⟨K, rfl⟩ := pos_of_le h
 rw [e]
 exact Le.rfl
end spec_l1Most
namespace spec_l1Abs
noncomputable def p (K : Nat) (a0 : Int) : Option Int := PI Cx K 69 [.sv (.one (.int .i64 a0))]
noncomputable def b (g0 : Int → Int → Option Int) (a0 : Int) : Option Int :=
 (g0 a0 (W (0 - a0))).bind fun t0 =>
 some t0
noncomputable def f (a0 : Int) : Option Int := b spec_l1Most.f a0
theorem e (K : Nat) (a0 : Int) : p (K + 1) a0 = b (spec_l1Most.p K) a0 := PI_at Cx (by kernel_rfl)
theorem k {K : Nat} (h : 2 ≤ K) (a0 : Int) : Le (f a0) (p K a0) := by
 obtain ⟨K, rfl⟩ := pos_of_le (show 0 + 1 ≤ K by omega)
 rw [e]
 unfold f b
 repeat' first | with_reducible apply Le.bind | with_reducible apply Le.ite | with_reducible exact Le.rfl | with_reducible refine spec_l1Most.k ?_ _ _ | with_reducible intro _ | omega
end spec_l1Abs
end Go.Proofs.YtlibgicponpecaaGreatDoor.Gu
