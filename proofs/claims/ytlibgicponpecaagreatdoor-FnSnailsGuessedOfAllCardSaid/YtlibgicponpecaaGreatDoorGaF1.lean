import Derived.Test.YtlibgicponpecaaGreatDoorGaF0
namespace Go.Proofs.YtlibgicponpecaaGreatDoor.Ga
open Go Go.Proofs.YtlibgicponpecaaGreatDoorPi Go.RowKit
set_option maxRecDepth 100000
set_option linter.unusedVariables false
namespace impl_withoutClue
noncomputable def p (K : Nat) (a0 : List (Int × (Int × Int))) (a1 : Int) : Option (List (Int × (Int × Int))) := PI Cx K 41 [.sv (.one (.sl 48 (.pair (.int .i64) (.pair (.int .i64) (.int .i64))) a0)), .sv (.one (.int .i64 a1))]
noncomputable def b (g0 : List (Int × (Int × Int)) → Option (List (Int × (Int × Int)))) (a0 : List (Int × (Int × Int))) (a1 : Int) : Option (List (Int × (Int × Int))) :=
 (g0 a0).bind fun t0 =>
 if 0 ≤ a1 then (if a1 < (dlen t0) then (if (W (a1 + 1)) = (a1 + 1) then (if (dlen t0) ≤ 5000000000000 then (some ((List.take (Int.toNat a1) t0) ++ (List.drop (Int.toNat (W (a1 + 1))) t0))) else (none)) else (none)) else (none)) else (none)
noncomputable def f (a0 : List (Int × (Int × Int))) (a1 : Int) : Option (List (Int × (Int × Int))) := b slices_Clone_impl_Clue_impl_Clue.f a0 a1
theorem e (K : Nat) (a0 : List (Int × (Int × Int))) (a1 : Int) : p (K + 1) a0 a1 = b (slices_Clone_impl_Clue_impl_Clue.p K) a0 a1 := PI_at Cx (by kernel_rfl)
theorem k {K : Nat} (h : 2 ≤ K) (a0 : List (Int × (Int × Int))) (a1 : Int) : Le (f a0 a1) (p K a0 a1) := by
 obtain ⟨K, rfl⟩ := pos_of_le (show 0 + 1 ≤ K by omega)
 rw [e]
 unfold f b
 repeat' first | with_reducible apply Le.bind | with_reducible apply Le.ite | with_reducible exact Le.rfl | with_reducible refine slices_Clone_impl_Clue_impl_Clue.k ?_ _ | with_reducible intro _ | omega
end impl_withoutClue
namespace impl_NeedlessClues
noncomputable def p (K : Nat) (a0 : List (Int × (Int × Int))) : Option ((List Int) × Bool) := PI Cx K 15 [.sv (.agg [.sl 48 (.pair (.int .i64) (.pair (.int .i64) (.int .i64))) a0])]
noncomputable def q0 (K m : Nat) (x0 x1 x2 : Int) (x3 : List (Int × (Int × Int))) (x4 : List Int) : Option ((List Int) × Bool) := runAt Cx K 15 [true, true, true, true, false, true, true] [m] ⟨[(1, .sv (.one (.ptr 0 0))), (4, .sv (.one (.int .i64 x0))), (5, .sv (.one (.full 1000000005000))), (16, .sv (.one (.int .i64 x1))), (17, .sv (.one (.int .i64 x2)))], [(0, .box 24 [.sl 48 (.pair (.int .i64) (.pair (.int .i64) (.int .i64))) x3]), (1000000005000, .row 3 (.int .i64) x4 .own)], []⟩
noncomputable def b (L0 : Int → Int → Int → List (Int × (Int × Int)) → List Int → Option ((List Int) × Bool)) (g0 : List (Int × (Int × Int)) → Option Bool) (g1 : List (Int × (Int × Int)) → Option (List (Int × Int))) (a0 : List (Int × (Int × Int))) : Option ((List Int) × Bool) :=
 (g0 a0).bind fun t0 =>
 if (!t0) = true then (some (([] : List Int), false)) else ((g1 a0).bind fun t1 =>
 L0 (dlen t1) (dlen a0) 0 a0 ([] : List Int))
noncomputable def b0 (L0 : Int → Int → Int → List (Int × (Int × Int)) → List Int → Option ((List Int) × Bool)) (g2 : List (Int × (Int × Int)) → Int → Option (List (Int × (Int × Int)))) (g1 : List (Int × (Int × Int)) → Option (List (Int × Int))) (x0 x1 x2 : Int) (x3 : List (Int × (Int × Int))) (x4 : List Int) : Option ((List Int) × Bool) :=
 if (decide (x2 < x1)) = true then ((g2 x3 x2).bind fun t0 =>
 (g1 t0).bind fun t1 =>
 if ((dlen t1) == x0) = true then (if ((dlenN x4) + 1) ≤ 17592186044416 then (L0 x0 x1 (W (x2 + 1)) x3 (x4 ++ [x2])) else (none)) else (L0 x0 x1 (W (x2 + 1)) x3 x4)) else (some (x4, true))
noncomputable def l0 : Nat → Int → Int → Int → List (Int × (Int × Int)) → List Int → Option ((List Int) × Bool)
 | 0, _, _, _, _, _ => none
 | k + 1, x0, x1, x2, x3, x4 => b0 (l0 k) impl_withoutClue.f (impl_solutions.f k) x0 x1 x2 x3 x4
noncomputable def f (k : Nat) (a0 : List (Int × (Int × Int))) : Option ((List Int) × Bool) := b (l0 k) (impl_IsPuzzle.f k) (impl_solutions.f k) a0
theorem e (K : Nat) (a0 : List (Int × (Int × Int))) : p (K + 1) a0 = b (q0 K K) (impl_IsPuzzle.p K) (impl_solutions.p K) a0 := PI_at Cx (by kernel_rfl)
theorem e0 (K m : Nat) (x0 x1 x2 : Int) (x3 : List (Int × (Int × Int))) (x4 : List Int) : q0 K (m + 1) x0 x1 x2 x3 x4 = b0 (q0 K m) (impl_withoutClue.p K) (impl_solutions.p K) x0 x1 x2 x3 x4 := by kernel_rfl
theorem kl (n : Nat) : ∀ K, n + 8 ≤ K → (∀ m, n ≤ m → ∀ (x0 x1 x2 : Int) (x3 : List (Int × (Int × Int))) (x4 : List Int), Le (l0 n x0 x1 x2 x3 x4) (q0 K m x0 x1 x2 x3 x4)) := by
 induction n with
 | zero => exact fun K _ => fun _ _ _ _ _ _ _ => Le.none
 | succ n ih =>
  intro K hK
  have ih := ih K (by omega)
  intro m hm x0 x1 x2 x3 x4
  obtain ⟨m, rfl⟩ := pos_of_le hm
  rw [e0]
  show Le (b0 (l0 n) impl_withoutClue.f (impl_solutions.f n) x0 x1 x2 x3 x4) _
  unfold b0
  repeat' first | with_reducible apply Le.bind | with_reducible apply Le.ite | with_reducible exact Le.rfl | with_reducible refine ih _ ?_ _ _ _ _ _ | with_reducible refine impl_withoutClue.k ?_ _ _ | with_reducible refine impl_solutions.k ?_ _ | with_reducible intro _ | omega
theorem k {n K : Nat} (h : n + 9 ≤ K) (a0 : List (Int × (Int × Int))) : Le (f n a0) (p K a0) := by
 obtain ⟨K, rfl⟩ := pos_of_le (show 0 + 1 ≤ K by omega)
 have kl := kl n K (by omega)
 rw [e]
 unfold f b
 repeat' first | with_reducible apply Le.bind | with_reducible apply Le.ite | with_reducible exact Le.rfl | with_reducible refine kl _ ?_ _ _ _ _ _ | with_reducible refine impl_IsPuzzle.k ?_ _ | with_reducible refine impl_solutions.k ?_ _ | with_reducible intro _ | omega
end impl_NeedlessClues
namespace spec_pzWithout
noncomputable def p (K : Nat) (a0 : List (Int × (Int × Int))) (a1 : Int) : Option (List (Int × (Int × Int))) := PI Cx K 42 [.sv (.one (.sl 48 (.pair (.int .i64) (.pair (.int .i64) (.int .i64))) a0)), .sv (.one (.int .i64 a1))]
noncomputable def f (a0 : List (Int × (Int × Int))) (a1 : Int) : Option (List (Int × (Int × Int))) :=
 if 0 ≤ a1 then (if a1 ≤ (dlen a0) then (if (0 + (dlenN (List.take (Int.toNat a1) a0))) ≤ 5864062014805 then (if 0 ≤ (W (a1 + 1)) then (if (W (a1 + 1)) ≤ (dlen a0) then (if ((dlenN (([] : List (Int × (Int × Int))) ++ (List.take (Int.toNat a1) a0))) + (dlenN (List.drop (Int.toNat (W (a1 + 1))) a0))) ≤ 5864062014805 then (some ((([] : List (Int × (Int × Int))) ++ (List.take (Int.toNat a1) a0)) ++ (List.drop (Int.toNat (W (a1 + 1))) a0))) else (none)) else (none)) else (none)) else (none)) else (none)) else (none)
theorem e (K : Nat) (a0 : List (Int × (Int × Int))) (a1 : Int) : p (K + 1) a0 a1 = f a0 a1 := PI_at Cx (by kernel_rfl)
theorem k {K : Nat} (h : 1 ≤ K) (a0 : List (Int × (Int × Int))) (a1 : Int) : Le (f a0 a1) (p K a0 a1) := by
 obtain ⟨K, rfl⟩ := pos_of_le h
 rw [e]
 exact Le.rfl
end spec_pzWithout
namespace spec_NeedlessClues
noncomputable def p (K : Nat) (a0 : List (Int × (Int × Int))) : Option ((List Int) × Bool) := PI Cx K 16 [.sv (.agg [.sl 48 (.pair (.int .i64) (.pair (.int .i64) (.int .i64))) a0])]
noncomputable def q0 (K m : Nat) (x0 x1 x2 : Int) (x3 : List (Int × (Int × Int))) (x4 : List Int) : Option ((List Int) × Bool) := runAt Cx K 16 [true, true, true, true, false, true, true] [m] ⟨[(1, .sv (.one (.ptr 0 0))), (4, .sv (.one (.full 1000000004000))), (5, .sv (.one (.int .i64 x0))), (16, .sv (.one (.int .i64 x1))), (17, .sv (.one (.int .i64 x2)))], [(0, .box 24 [.sl 48 (.pair (.int .i64) (.pair (.int .i64) (.int .i64))) x3]), (1000000004000, .row 3 (.int .i64) x4 .own)], []⟩
noncomputable def b (L0 : Int → Int → Int → List (Int × (Int × Int)) → List Int → Option ((List Int) × Bool)) (g0 : List (Int × (Int × Int)) → Option Bool) (g1 : List (Int × (Int × Int)) → Option (List (Int × Int))) (a0 : List (Int × (Int × Int))) : Option ((List Int) × Bool) :=
 (g0 a0).bind fun t0 =>
 if (!t0) = true then (some (([] : List Int), false)) else ((g1 a0).bind fun t1 =>
 L0 (dlen t1) (dlen a0) 0 a0 ([] : List Int))
noncomputable def b0 (L0 : Int → Int → Int → List (Int × (Int × Int)) → List Int → Option ((List Int) × Bool)) (g2 : List (Int × (Int × Int)) → Int → Option (List (Int × (Int × Int)))) (g1 : List (Int × (Int × Int)) → Option (List (Int × Int))) (x0 x1 x2 : Int) (x3 : List (Int × (Int × Int))) (x4 : List Int) : Option ((List Int) × Bool) :=
 if (decide (x2 < x1)) = true then ((g2 x3 x2).bind fun t0 =>
 (g1 t0).bind fun t1 =>
 if ((dlen t1) == x0) = true then (if ((dlenN x4) + 1) ≤ 17592186044416 then (L0 x0 x1 (W (x2 + 1)) x3 (x4 ++ [x2])) else (none)) else (L0 x0 x1 (W (x2 + 1)) x3 x4)) else (some (x4, true))
noncomputable def l0 : Nat → Int → Int → Int → List (Int × (Int × Int)) → List Int → Option ((List Int) × Bool)
 | 0, _, _, _, _, _ => none
 | k + 1, x0, x1, x2, x3, x4 => b0 (l0 k) spec_pzWithout.f (spec_pzAll.f k) x0 x1 x2 x3 x4
noncomputable def f (k : Nat) (a0 : List (Int × (Int × Int))) : Option ((List Int) × Bool) := b (l0 k) (spec_pzGood.f k) (spec_pzAll.f k) a0
theorem e (K : Nat) (a0 : List (Int × (Int × Int))) : p (K + 1) a0 = b (q0 K K) (spec_pzGood.p K) (spec_pzAll.p K) a0 := PI_at Cx (by kernel_rfl)
theorem e0 (K m : Nat) (x0 x1 x2 : Int) (x3 : List (Int × (Int × Int))) (x4 : List Int) : q0 K (m + 1) x0 x1 x2 x3 x4 = b0 (q0 K m) (spec_pzWithout.p K) (spec_pzAll.p K) x0 x1 x2 x3 x4 := by kernel_rfl
theorem kl (n : Nat) : ∀ K, n + 4 ≤ K → (∀ m, n ≤ m → ∀ (x0 x1 x2 : Int) (x3 : List (Int × (Int × Int))) (x4 : List Int), Le (l0 n x0 x1 x2 x3 x4) (q0 K m x0 x1 x2 x3 x4)) := by
 induction n with
 | zero => exact fun K _ => fun _ _ _ _ _ _ _ => Le.none
 | succ n ih =>
  intro K hK
  have ih := ih K (by omega)
  intro m hm x0 x1 x2 x3 x4
  obtain ⟨m, rfl⟩ := pos_of_le hm
  rw [e0]
  show Le (b0 (l0 n) spec_pzWithout.f (spec_pzAll.f n) x0 x1 x2 x3 x4) _
  unfold b0
  repeat' first | with_reducible apply Le.bind | with_reducible apply Le.ite | with_reducible exact Le.rfl | with_reducible refine ih _ ?_ _ _ _ _ _ | with_reducible refine spec_pzWithout.k ?_ _ _ | with_reducible refine spec_pzAll.k ?_ _ | with_reducible intro _ | omega
theorem k {n K : Nat} (h : n + 5 ≤ K) (a0 : List (Int × (Int × Int))) : Le (f n a0) (p K a0) := by
 obtain ⟨K, rfl⟩ := pos_of_le (show 0 + 1 ≤ K by omega)
 have kl := kl n K (by omega)
 rw [e]
 unfold f b
 repeat' first | with_reducible apply Le.bind | with_reducible apply Le.ite | with_reducible exact Le.rfl | with_reducible refine kl _ ?_ _ _ _ _ _ | with_reducible refine spec_pzGood.k ?_ _ | with_reducible refine spec_pzAll.k ?_ _ | with_reducible intro _ | omega
end spec_NeedlessClues
namespace impl_LeftByClues
noncomputable def p (K : Nat) (a0 : List (Int × (Int × Int))) : Option ((List Int) × Bool) := PI Cx K 17 [.sv (.agg [.sl 48 (.pair (.int .i64) (.pair (.int .i64) (.int .i64))) a0])]
noncomputable def q0 (K m : Nat) (x0 x1 : Int) (x2 : List (Int × (Int × Int))) (x3 : List Int) : Option ((List Int) × Bool) := runAt Cx K 17 [true, true, true, false, true, true] [m] ⟨[(1, .sv (.one (.ptr 0 0))), (4, .sv (.one (.full 1000000004000))), (12, .sv (.one (.int .i64 x0))), (13, .sv (.one (.int .i64 x1)))], [(0, .box 24 [.sl 48 (.pair (.int .i64) (.pair (.int .i64) (.int .i64))) x2]), (1000000004000, .row 3 (.int .i64) x3 .own)], []⟩
noncomputable def b (L0 : Int → Int → List (Int × (Int × Int)) → List Int → Option ((List Int) × Bool)) (g0 : List (Int × (Int × Int)) → Option Bool) (a0 : List (Int × (Int × Int))) : Option ((List Int) × Bool) :=
 (g0 a0).bind fun t0 =>
 if (!t0) = true then (some (([] : List Int), false)) else (L0 (W ((dlen a0) + 1)) 0 a0 ([] : List Int))
noncomputable def b0 (L0 : Int → Int → List (Int × (Int × Int)) → List Int → Option ((List Int) × Bool)) (g1 : List (Int × (Int × Int)) → Option (List (Int × Int))) (x0 x1 : Int) (x2 : List (Int × (Int × Int))) (x3 : List Int) : Option ((List Int) × Bool) :=
 if (decide (x1 < x0)) = true then (if 0 ≤ x1 then (if x1 ≤ (dlen x2) then ((g1 (List.take (Int.toNat x1) x2)).bind fun t0 =>
 if ((dlenN x3) + 1) ≤ 17592186044416 then (L0 x0 (W (x1 + 1)) x2 (x3 ++ [(dlen t0)])) else (none)) else (none)) else (none)) else (some (x3, true))
noncomputable def l0 : Nat → Int → Int → List (Int × (Int × Int)) → List Int → Option ((List Int) × Bool)
 | 0, _, _, _, _ => none
 | k + 1, x0, x1, x2, x3 => b0 (l0 k) (impl_solutions.f k) x0 x1 x2 x3
noncomputable def f (k : Nat) (a0 : List (Int × (Int × Int))) : Option ((List Int) × Bool) := b (l0 k) (impl_IsPuzzle.f k) a0
theorem e (K : Nat) (a0 : List (Int × (Int × Int))) : p (K + 1) a0 = b (q0 K K) (impl_IsPuzzle.p K) a0 := PI_at Cx (by kernel_rfl)
theorem e0 (K m : Nat) (x0 x1 : Int) (x2 : List (Int × (Int × Int))) (x3 : List Int) : q0 K (m + 1) x0 x1 x2 x3 = b0 (q0 K m) (impl_solutions.p K) x0 x1 x2 x3 := by kernel_rfl
theorem kl (n : Nat) : ∀ K, n + 8 ≤ K → (∀ m, n ≤ m → ∀ (x0 x1 : Int) (x2 : List (Int × (Int × Int))) (x3 : List Int), Le (l0 n x0 x1 x2 x3) (q0 K m x0 x1 x2 x3)) := by
 induction n with
 | zero => exact fun K _ => fun _ _ _ _ _ _ => Le.none
 | succ n ih =>
  intro K hK
  have ih := ih K (by omega)
  intro m hm x0 x1 x2 x3
  obtain ⟨m, rfl⟩ := pos_of_le hm
  rw [e0]
  show Le (b0 (l0 n) (impl_solutions.f n) x0 x1 x2 x3) _
  unfold b0
  repeat' first | with_reducible apply Le.bind | with_reducible apply Le.ite | with_reducible exact Le.rfl | with_reducible refine ih _ ?_ _ _ _ _ | with_reducible refine impl_solutions.k ?_ _ | with_reducible intro _ | omega
theorem k {n K : Nat} (h : n + 9 ≤ K) (a0 : List (Int × (Int × Int))) : Le (f n a0) (p K a0) := by
 obtain ⟨K, rfl⟩ := pos_of_le (show 0 + 1 ≤ K by omega)
 have kl := kl n K (by omega)
 rw [e]
 unfold f b
 repeat' first | with_reducible apply Le.bind | with_reducible apply Le.ite | with_reducible exact Le.rfl | with_reducible refine kl _ ?_ _ _ _ _ | with_reducible refine impl_IsPuzzle.k ?_ _ | with_reducible intro _ | omega
end impl_LeftByClues
namespace spec_LeftByClues
noncomputable def p (K : Nat) (a0 : List (Int × (Int × Int))) : Option ((List Int) × Bool) := PI Cx K 18 [.sv (.agg [.sl 48 (.pair (.int .i64) (.pair (.int .i64) (.int .i64))) a0])]
noncomputable def q0 (K m : Nat) (x0 : Int) (x1 : List (Int × (Int × Int))) (x2 : List Int) : Option ((List Int) × Bool) := runAt Cx K 18 [true, true, true, false, true, true] [m] ⟨[(1, .sv (.one (.ptr 0 0))), (4, .sv (.one (.full 1000000004000))), (5, .sv (.one (.int .i64 x0)))], [(0, .box 24 [.sl 48 (.pair (.int .i64) (.pair (.int .i64) (.int .i64))) x1]), (1000000004000, .row 3 (.int .i64) x2 .own)], []⟩
noncomputable def b (L0 : Int → List (Int × (Int × Int)) → List Int → Option ((List Int) × Bool)) (g0 : List (Int × (Int × Int)) → Option Bool) (a0 : List (Int × (Int × Int))) : Option ((List Int) × Bool) :=
 (g0 a0).bind fun t0 =>
 if (!t0) = true then (some (([] : List Int), false)) else (L0 0 a0 ([] : List Int))
noncomputable def b0 (L0 : Int → List (Int × (Int × Int)) → List Int → Option ((List Int) × Bool)) (g1 : List (Int × (Int × Int)) → Option (List (Int × Int))) (x0 : Int) (x1 : List (Int × (Int × Int))) (x2 : List Int) : Option ((List Int) × Bool) :=
 if (decide (x0 ≤ (dlen x1))) = true then (if 0 ≤ x0 then (if x0 ≤ (dlen x1) then ((g1 (List.take (Int.toNat x0) x1)).bind fun t0 =>
 if ((dlenN x2) + 1) ≤ 17592186044416 then (L0 (W (x0 + 1)) x1 (x2 ++ [(dlen t0)])) else (none)) else (none)) else (none)) else (some (x2, true))
noncomputable def l0 : Nat → Int → List (Int × (Int × Int)) → List Int → Option ((List Int) × Bool)
 | 0, _, _, _ => none
 | k + 1, x0, x1, x2 => b0 (l0 k) (spec_pzAll.f k) x0 x1 x2
noncomputable def f (k : Nat) (a0 : List (Int × (Int × Int))) : Option ((List Int) × Bool) := b (l0 k) (spec_pzGood.f k) a0
theorem e (K : Nat) (a0 : List (Int × (Int × Int))) : p (K + 1) a0 = b (q0 K K) (spec_pzGood.p K) a0 := PI_at Cx (by kernel_rfl)
theorem e0 (K m : Nat) (x0 : Int) (x1 : List (Int × (Int × Int))) (x2 : List Int) : q0 K (m + 1) x0 x1 x2 = b0 (q0 K m) (spec_pzAll.p K) x0 x1 x2 := by kernel_rfl
theorem kl (n : Nat) : ∀ K, n + 4 ≤ K → (∀ m, n ≤ m → ∀ (x0 : Int) (x1 : List (Int × (Int × Int))) (x2 : List Int), Le (l0 n x0 x1 x2) (q0 K m x0 x1 x2)) := by
 induction n with
 | zero => exact fun K _ => fun _ _ _ _ _ => Le.none
 | succ n ih =>
  intro K hK
  have ih := ih K (by omega)
  intro m hm x0 x1 x2
  obtain ⟨m, rfl⟩ := pos_of_le hm
  rw [e0]
  show Le (b0 (l0 n) (spec_pzAll.f n) x0 x1 x2) _
  unfold b0
  repeat' first | with_reducible apply Le.bind | with_reducible apply Le.ite | with_reducible exact Le.rfl | with_reducible refine ih _ ?_ _ _ _ | with_reducible refine spec_pzAll.k ?_ _ | with_reducible intro _ | omega
theorem k {n K : Nat} (h : n + 5 ≤ K) (a0 : List (Int × (Int × Int))) : Le (f n a0) (p K a0) := by
 obtain ⟨K, rfl⟩ := pos_of_le (show 0 + 1 ≤ K by omega)
 have kl := kl n K (by omega)
 rw [e]
 unfold f b
 repeat' first | with_reducible apply Le.bind | with_reducible apply Le.ite | with_reducible exact Le.rfl | with_reducible refine kl _ ?_ _ _ _ | with_reducible refine spec_pzGood.k ?_ _ | with_reducible intro _ | omega
end spec_LeftByClues
namespace impl_BestClue
noncomputable def p (K : Nat) (a0 : List (Int × (Int × Int))) : Option (Int × Bool) := PI Cx K 19 [.sv (.agg [.sl 48 (.pair (.int .i64) (.pair (.int .i64) (.int .i64))) a0])]
noncomputable def q0 (K m : Nat) (x0 x1 x2 x3 : Int) (x4 : List (Int × (Int × Int))) : Option (Int × Bool) := runAt Cx K 19 [true, true, true, false, true, true] [m] ⟨[(1, .sv (.one (.ptr 0 0))), (4, .sv (.one (.int .i64 x0))), (5, .sv (.one (.int .i64 x1))), (19, .sv (.one (.int .i64 x2))), (20, .sv (.one (.int .i64 x3)))], [(0, .box 24 [.sl 48 (.pair (.int .i64) (.pair (.int .i64) (.int .i64))) x4])], []⟩
noncomputable def b (L0 : Int → Int → Int → Int → List (Int × (Int × Int)) → Option (Int × Bool)) (g0 : List (Int × (Int × Int)) → Option Bool) (a0 : List (Int × (Int × Int))) : Option (Int × Bool) :=
 (g0 a0).bind fun t0 =>
 if (!t0) = true then (some (0, false)) else (if ((dlen a0) == 0) = true then (some (0, false)) else (L0 (-1) 0 (dlen a0) 0 a0))
noncomputable def b0 (L0 : Int → Int → Int → Int → List (Int × (Int × Int)) → Option (Int × Bool)) (g1 : List (Int × (Int × Int)) → Option (List (Int × Int))) (x0 x1 x2 x3 : Int) (x4 : List (Int × (Int × Int))) : Option (Int × Bool) :=
 if (decide (x3 < x2)) = true then (if 0 ≤ x3 then (if x3 ≤ (W (x3 + 1)) then (if (W (x3 + 1)) ≤ (dlen x4) then ((g1 (List.drop (Int.toNat x3) (List.take (Int.toNat (W (x3 + 1))) x4))).bind fun t0 =>
 if (decide (x0 < 0)) = true then (L0 x3 (dlen t0) x2 (W (x3 + 1)) x4) else (if (decide ((dlen t0) < x1)) = true then (L0 x3 (dlen t0) x2 (W (x3 + 1)) x4) else (L0 x0 x1 x2 (W (x3 + 1)) x4))) else (none)) else (none)) else (none)) else (some (x0, true))
noncomputable def l0 : Nat → Int → Int → Int → Int → List (Int × (Int × Int)) → Option (Int × Bool)
 | 0, _, _, _, _, _ => none
 | k + 1, x0, x1, x2, x3, x4 => b0 (l0 k) (impl_solutions.f k) x0 x1 x2 x3 x4
noncomputable def f (k : Nat) (a0 : List (Int × (Int × Int))) : Option (Int × Bool) := b (l0 k) (impl_IsPuzzle.f k) a0
theorem e (K : Nat) (a0 : List (Int × (Int × Int))) : p (K + 1) a0 = b (q0 K K) (impl_IsPuzzle.p K) a0 := PI_at Cx (by kernel_rfl)
theorem e0 (K m : Nat) (x0 x1 x2 x3 : Int) (x4 : List (Int × (Int × Int))) : q0 K (m + 1) x0 x1 x2 x3 x4 = b0 (q0 K m) (impl_solutions.p K) x0 x1 x2 x3 x4 := by kernel_rfl
theorem kl (n : Nat) : ∀ K, n + 8 ≤ K → (∀ m, n ≤ m → ∀ (x0 x1 x2 x3 : Int) (x4 : List (Int × (Int × Int))), Le (l0 n x0 x1 x2 x3 x4) (q0 K m x0 x1 x2 x3 x4)) := by
 induction n with
 | zero => exact fun K _ => fun _ _ _ _ _ _ _ => Le.none
 | succ n ih =>
  intro K hK
  have ih := ih K (by omega)
  intro m hm x0 x1 x2 x3 x4
  obtain ⟨m, rfl⟩ := pos_of_le hm
  rw [e0]
  show Le (b0 (l0 n) (impl_solutions.f n) x0 x1 x2 x3 x4) _
  unfold b0
  repeat' first | with_reducible apply Le.bind | with_reducible apply Le.ite | with_reducible exact Le.rfl | with_reducible refine ih _ ?_ _ _ _ _ _ | with_reducible refine impl_solutions.k ?_ _ | with_reducible intro _ | omega
theorem k {n K : Nat} (h : n + 9 ≤ K) (a0 : List (Int × (Int × Int))) : Le (f n a0) (p K a0) := by
 obtain ⟨K, rfl⟩ := pos_of_le (show 0 + 1 ≤ K by omega)
 have kl := kl n K (by omega)
 rw [e]
 unfold f b
 repeat' first | with_reducible apply Le.bind | with_reducible apply Le.ite | with_reducible exact Le.rfl | with_reducible refine kl _ ?_ _ _ _ _ _ | with_reducible refine impl_IsPuzzle.k ?_ _ | with_reducible intro _ | omega
end impl_BestClue
namespace spec_BestClue
noncomputable def p (K : Nat) (a0 : List (Int × (Int × Int))) : Option (Int × Bool) := PI Cx K 20 [.sv (.agg [.sl 48 (.pair (.int .i64) (.pair (.int .i64) (.int .i64))) a0])]
noncomputable def q0 (K m : Nat) (x0 x1 x2 x3 : Int) (x4 : List (Int × (Int × Int))) : Option (Int × Bool) := runAt Cx K 20 [true, true, true, false, true, true] [m] ⟨[(1, .sv (.one (.ptr 0 0))), (4, .sv (.one (.int .i64 x0))), (5, .sv (.one (.int .i64 x1))), (19, .sv (.one (.int .i64 x2))), (20, .sv (.one (.int .i64 x3)))], [(0, .box 24 [.sl 48 (.pair (.int .i64) (.pair (.int .i64) (.int .i64))) x4])], []⟩
noncomputable def b (L0 : Int → Int → Int → Int → List (Int × (Int × Int)) → Option (Int × Bool)) (g0 : List (Int × (Int × Int)) → Option Bool) (a0 : List (Int × (Int × Int))) : Option (Int × Bool) :=
 (g0 a0).bind fun t0 =>
 if (!t0) = true then (some (0, false)) else (if ((dlen a0) == 0) = true then (some (0, false)) else (L0 0 0 (dlen a0) 0 a0))
noncomputable def b0 (L0 : Int → Int → Int → Int → List (Int × (Int × Int)) → Option (Int × Bool)) (g1 : List (Int × (Int × Int)) → Option (List (Int × Int))) (x0 x1 x2 x3 : Int) (x4 : List (Int × (Int × Int))) : Option (Int × Bool) :=
 if (decide (x3 < x2)) = true then (if 0 ≤ x3 then (if x3 ≤ (W (x3 + 1)) then (if (W (x3 + 1)) ≤ (dlen x4) then ((g1 (List.drop (Int.toNat x3) (List.take (Int.toNat (W (x3 + 1))) x4))).bind fun t0 =>
 if (x3 == 0) = true then (L0 x3 (dlen t0) x2 (W (x3 + 1)) x4) else (if (decide ((dlen t0) < x1)) = true then (L0 x3 (dlen t0) x2 (W (x3 + 1)) x4) else (L0 x0 x1 x2 (W (x3 + 1)) x4))) else (none)) else (none)) else (none)) else (some (x0, true))
noncomputable def l0 : Nat → Int → Int → Int → Int → List (Int × (Int × Int)) → Option (Int × Bool)
 | 0, _, _, _, _, _ => none
 | k + 1, x0, x1, x2, x3, x4 => b0 (l0 k) (spec_pzAll.f k) x0 x1 x2 x3 x4
noncomputable def f (k : Nat) (a0 : List (Int × (Int × Int))) : Option (Int × Bool) := b (l0 k) (spec_pzGood.f k) a0
theorem e (K : Nat) (a0 : List (Int × (Int × Int))) : p (K + 1) a0 = b (q0 K K) (spec_pzGood.p K) a0 := PI_at Cx (by kernel_rfl)
theorem e0 (K m : Nat) (x0 x1 x2 x3 : Int) (x4 : List (Int × (Int × Int))) : q0 K (m + 1) x0 x1 x2 x3 x4 = b0 (q0 K m) (spec_pzAll.p K) x0 x1 x2 x3 x4 := by kernel_rfl
theorem kl (n : Nat) : ∀ K, n + 4 ≤ K → (∀ m, n ≤ m → ∀ (x0 x1 x2 x3 : Int) (x4 : List (Int × (Int × Int))), Le (l0 n x0 x1 x2 x3 x4) (q0 K m x0 x1 x2 x3 x4)) := by
 induction n with
 | zero => exact fun K _ => fun _ _ _ _ _ _ _ => Le.none
 | succ n ih =>
  intro K hK
  have ih := ih K (by omega)
  intro m hm x0 x1 x2 x3 x4
  obtain ⟨m, rfl⟩ := pos_of_le hm
  rw [e0]
  show Le (b0 (l0 n) (spec_pzAll.f n) x0 x1 x2 x3 x4) _
  unfold b0
  repeat' first | with_reducible apply Le.bind | with_reducible apply Le.ite | with_reducible exact Le.rfl | with_reducible refine ih _ ?_ _ _ _ _ _ | with_reducible refine spec_pzAll.k ?_ _ | with_reducible intro _ | omega
theorem k {n K : Nat} (h : n + 5 ≤ K) (a0 : List (Int × (Int × Int))) : Le (f n a0) (p K a0) := by
 obtain ⟨K, rfl⟩ := pos_of_le (show 0 + 1 ≤ K by omega)
 have kl := kl n K (by omega)
 rw [e]
 unfold f b
 repeat' first | with_reducible apply Le.bind | with_reducible apply Le.ite | with_reducible exact Le.rfl | with_reducible refine kl _ ?_ _ _ _ _ _ | with_reducible refine spec_pzGood.k ?_ _ | with_reducible intro _ | omega
end spec_BestClue
namespace strconv_Itoa
noncomputable def p (K : Nat) (a0 : Int) : Option ByteArray := PI Cx K 64 [.sv (.one (.int .i64 a0))]
noncomputable def f (a0 : Int) : Option ByteArray := handItoa a0
theorem e (K : Nat) (a0 : Int) : p (K + 1) a0 = f a0 := PI_at Cx (by kernel_rfl)
theorem k {K : Nat} (h : 1 ≤ K) (a0 : Int) : Le (f a0) (p K a0) := by
 obtain ⟨K, rfl⟩ := pos_of_le h
 rw [e]
 exact Le.rfl
end strconv_Itoa
namespace strings_Join
noncomputable def p (K : Nat) (a0 : List ByteArray) (a1 : ByteArray) : Option ByteArray := PI Cx K 44 [.sv (.one (.sl 9 (.str) a0)), .sv (.one (.str a1))]
noncomputable def f (a0 : List ByteArray) (a1 : ByteArray) : Option ByteArray := handJoin a0 a1
theorem e (K : Nat) (a0 : List ByteArray) (a1 : ByteArray) : p (K + 1) a0 a1 = f a0 a1 := PI_at Cx (by kernel_rfl)
theorem k {K : Nat} (h : 1 ≤ K) (a0 : List ByteArray) (a1 : ByteArray) : Le (f a0 a1) (p K a0 a1) := by
 obtain ⟨K, rfl⟩ := pos_of_le h
 rw [e]
 exact Le.rfl
end strings_Join
namespace impl_joinNumbers
noncomputable def p (K : Nat) (a0 : List Int) (a1 : ByteArray) : Option ByteArray := PI Cx K 43 [.sv (.one (.sl 3 (.int .i64) a0)), .sv (.one (.str a1))]
noncomputable def q0 (K m : Nat) (x0 : ByteArray) (x1 : List Int) (x2 x3 : Int) (x4 : List ByteArray) : Option ByteArray := runAt Cx K 43 [true, true, false, true, true] [m] ⟨[(1, .sv (.one (.str x0))), (5, .sv (.one (.full 1000000005000))), (11, .sv (.one (.sl 3 (.int .i64) x1))), (12, .sv (.one (.int .i64 x2))), (13, .sv (.one (.int .i64 x3)))], [(1000000005000, .row 9 (.str) x4 .own)], []⟩
noncomputable def b (L0 : ByteArray → List Int → Int → Int → List ByteArray → Option ByteArray) (a0 : List Int) (a1 : ByteArray) : Option ByteArray :=
 if 0 ≤ (dlen a0) then (if (dlen a0) ≤ (dlen a0) then (if ((dlen a0) * 16) ≤ 140737488355328 then (L0 a1 a0 (dlen a0) 0 (List.replicate (Int.toNat (dlen a0)) (bs []))) else (none)) else (none)) else (none)
noncomputable def b0 (L0 : ByteArray → List Int → Int → Int → List ByteArray → Option ByteArray) (g0 : Int → Option ByteArray) (g1 : List ByteArray → ByteArray → Option ByteArray) (x0 : ByteArray) (x1 : List Int) (x2 x3 : Int) (x4 : List ByteArray) : Option ByteArray :=
 if (decide (x3 < x2)) = true then (if 0 ≤ x3 then (if x3 < (dlen x1) then ((g0 (rd 0 x1 x3)).bind fun t0 =>
 if 0 ≤ x3 then (if x3 < (dlen x4) then (L0 x0 x1 x2 (W (x3 + 1)) (List.set x4 (Int.toNat x3) t0)) else (none)) else (none)) else (none)) else (none)) else ((g1 x4 x0).bind fun t0 =>
 some t0)
noncomputable def l0 : Nat → ByteArray → List Int → Int → Int → List ByteArray → Option ByteArray
 | 0, _, _, _, _, _ => none
 | k + 1, x0, x1, x2, x3, x4 => b0 (l0 k) strconv_Itoa.f strings_Join.f x0 x1 x2 x3 x4
noncomputable def f (k : Nat) (a0 : List Int) (a1 : ByteArray) : Option ByteArray := b (l0 k) a0 a1
theorem e (K : Nat) (a0 : List Int) (a1 : ByteArray) : p (K + 1) a0 a1 = b (q0 K K) a0 a1 := PI_at Cx (by kernel_rfl)
theorem e0 (K m : Nat) (x0 : ByteArray) (x1 : List Int) (x2 x3 : Int) (x4 : List ByteArray) : q0 K (m + 1) x0 x1 x2 x3 x4 = b0 (q0 K m) (strconv_Itoa.p K) (strings_Join.p K) x0 x1 x2 x3 x4 := by kernel_rfl
theorem kl (n : Nat) : ∀ K, n + 1 ≤ K → (∀ m, n ≤ m → ∀ (x0 : ByteArray) (x1 : List Int) (x2 x3 : Int) (x4 : List ByteArray), Le (l0 n x0 x1 x2 x3 x4) (q0 K m x0 x1 x2 x3 x4)) := by
 induction n with
 | zero => exact fun K _ => fun _ _ _ _ _ _ _ => Le.none
 | succ n ih =>
  intro K hK
  have ih := ih K (by omega)
  intro m hm x0 x1 x2 x3 x4
  obtain ⟨m, rfl⟩ := pos_of_le hm
  rw [e0]
  show Le (b0 (l0 n) strconv_Itoa.f strings_Join.f x0 x1 x2 x3 x4) _
  unfold b0
  repeat' first | with_reducible apply Le.bind | with_reducible apply Le.ite | with_reducible exact Le.rfl | with_reducible refine ih _ ?_ _ _ _ _ _ | with_reducible refine strconv_Itoa.k ?_ _ | with_reducible refine strings_Join.k ?_ _ _ | with_reducible intro _ | omega
theorem k {n K : Nat} (h : n + 2 ≤ K) (a0 : List Int) (a1 : ByteArray) : Le (f n a0 a1) (p K a0 a1) := by
 obtain ⟨K, rfl⟩ := pos_of_le (show 0 + 1 ≤ K by omega)
 have kl := kl n K (by omega)
 rw [e]
 unfold f b
 repeat' first | with_reducible apply Le.bind | with_reducible apply Le.ite | with_reducible exact Le.rfl | with_reducible refine kl _ ?_ _ _ _ _ _ | with_reducible intro _ | omega
end impl_joinNumbers
namespace impl_PuzzleText
noncomputable def p (K : Nat) (a0 : List (Int × (Int × Int))) : Option (ByteArray × Bool) := PI Cx K 21 [.sv (.agg [.sl 48 (.pair (.int .i64) (.pair (.int .i64) (.int .i64))) a0])]
noncomputable def q0 (K m : Nat) (x0 : List (Int × (Int × Int))) (x1 x2 : Int) (x3 : List ByteArray) : Option (ByteArray × Bool) := runAt Cx K 21 [true, true, true, false, true, true] [m] ⟨[(4, .sv (.one (.full 1000000004000))), (15, .sv (.one (.sl 48 (.pair (.int .i64) (.pair (.int .i64) (.int .i64))) x0))), (16, .sv (.one (.int .i64 x1))), (17, .sv (.one (.int .i64 x2)))], [(1000000004000, .row 9 (.str) x3 .own)], []⟩
noncomputable def b (L0 : List (Int × (Int × Int)) → Int → Int → List ByteArray → Option (ByteArray × Bool)) (g0 : List (Int × (Int × Int)) → Option Bool) (a0 : List (Int × (Int × Int))) : Option (ByteArray × Bool) :=
 (g0 a0).bind fun t0 =>
 if (!t0) = true then (some ((bs []), false)) else (if 0 ≤ (dlen a0) then (if (dlen a0) ≤ (dlen a0) then (if ((dlen a0) * 16) ≤ 140737488355328 then (L0 a0 (dlen a0) 0 (List.replicate (Int.toNat (dlen a0)) (bs []))) else (none)) else (none)) else (none))
noncomputable def b0 (L0 : List (Int × (Int × Int)) → Int → Int → List ByteArray → Option (ByteArray × Bool)) (g1 : List Int → ByteArray → Option ByteArray) (g2 : List ByteArray → ByteArray → Option ByteArray) (x0 : List (Int × (Int × Int))) (x1 x2 : Int) (x3 : List ByteArray) : Option (ByteArray × Bool) :=
 if (decide (x2 < x1)) = true then (if 0 ≤ x2 then (if x2 < (dlen x0) then ((g1 [(rd (0, (0, 0)) x0 x2).1, (rd (0, (0, 0)) x0 x2).2.1, (rd (0, (0, 0)) x0 x2).2.2] (bs [46])).bind fun t0 =>
 if 0 ≤ x2 then (if x2 < (dlen x3) then (L0 x0 x1 (W (x2 + 1)) (List.set x3 (Int.toNat x2) t0)) else (none)) else (none)) else (none)) else (none)) else ((g2 x3 (bs [44])).bind fun t0 =>
 some (t0, true))
noncomputable def l0 : Nat → List (Int × (Int × Int)) → Int → Int → List ByteArray → Option (ByteArray × Bool)
 | 0, _, _, _, _ => none
 | k + 1, x0, x1, x2, x3 => b0 (l0 k) (impl_joinNumbers.f k) strings_Join.f x0 x1 x2 x3
noncomputable def f (k : Nat) (a0 : List (Int × (Int × Int))) : Option (ByteArray × Bool) := b (l0 k) (impl_IsPuzzle.f k) a0
theorem e (K : Nat) (a0 : List (Int × (Int × Int))) : p (K + 1) a0 = b (q0 K K) (impl_IsPuzzle.p K) a0 := PI_at Cx (by kernel_rfl)
theorem e0 (K m : Nat) (x0 : List (Int × (Int × Int))) (x1 x2 : Int) (x3 : List ByteArray) : q0 K (m + 1) x0 x1 x2 x3 = b0 (q0 K m) (impl_joinNumbers.p K) (strings_Join.p K) x0 x1 x2 x3 := by kernel_rfl
theorem kl (n : Nat) : ∀ K, n + 6 ≤ K → (∀ m, n ≤ m → ∀ (x0 : List (Int × (Int × Int))) (x1 x2 : Int) (x3 : List ByteArray), Le (l0 n x0 x1 x2 x3) (q0 K m x0 x1 x2 x3)) := by
 induction n with
 | zero => exact fun K _ => fun _ _ _ _ _ _ => Le.none
 | succ n ih =>
  intro K hK
  have ih := ih K (by omega)
  intro m hm x0 x1 x2 x3
  obtain ⟨m, rfl⟩ := pos_of_le hm
  rw [e0]
  show Le (b0 (l0 n) (impl_joinNumbers.f n) strings_Join.f x0 x1 x2 x3) _
  unfold b0
  repeat' first | with_reducible apply Le.bind | with_reducible apply Le.ite | with_reducible exact Le.rfl | with_reducible refine ih _ ?_ _ _ _ _ | with_reducible refine impl_joinNumbers.k ?_ _ _ | with_reducible refine strings_Join.k ?_ _ _ | with_reducible intro _ | omega
theorem k {n K : Nat} (h : n + 7 ≤ K) (a0 : List (Int × (Int × Int))) : Le (f n a0) (p K a0) := by
 obtain ⟨K, rfl⟩ := pos_of_le (show 0 + 1 ≤ K by omega)
 have kl := kl n K (by omega)
 rw [e]
 unfold f b
 repeat' first | with_reducible apply Le.bind | with_reducible apply Le.ite | with_reducible exact Le.rfl | with_reducible refine kl _ ?_ _ _ _ _ | with_reducible refine impl_IsPuzzle.k ?_ _ | with_reducible intro _ | omega
end impl_PuzzleText
namespace spec_l1Num
noncomputable def p (K : Nat) (a0 : Int) : Option ByteArray := PI Cx K 68 [.sv (.one (.int .i64 a0))]
noncomputable def b (g0 : Int → Option ByteArray) (a0 : Int) : Option ByteArray :=
 if (decide (a0 < 10)) = true then (some (bytesOf [(IntKind.wrap .u8 (W (48 + a0)))])) else ((g0 (W (Int.tdiv a0 10))).bind fun t0 =>
 if ((ByteArray.size t0) + (ByteArray.size (bytesOf [(IntKind.wrap .u8 (W (48 + (Int.tmod a0 10))))]))) ≤ maxLen then (some (t0 ++ (bytesOf [(IntKind.wrap .u8 (W (48 + (Int.tmod a0 10))))]))) else (none))
noncomputable def f : Nat → Int → Option ByteArray
 | 0, _ => none
 | k + 1, a0 => b (f k) a0
theorem e (K : Nat) (a0 : Int) : p (K + 1) a0 = b (p K) a0 := PI_at Cx (by kernel_rfl)
theorem k {n : Nat} : ∀ {K : Nat}, n + 1 ≤ K → ∀ (a0 : Int), Le (f n a0) (p K a0) := by
 induction n with
 | zero => exact fun _ _ => Le.none
 | succ n ih =>
  intro K h a0
  obtain ⟨K, rfl⟩ := pos_of_le (show 0 + 1 ≤ K by omega)
  rw [e]
  show Le (b (f n) a0) _
  unfold b
  repeat' first | with_reducible apply Le.bind | with_reducible apply Le.ite | with_reducible exact Le.rfl | with_reducible refine ih ?_ _ | with_reducible intro _ | omega
end spec_l1Num
namespace spec_l1Most
noncomputable def p (K : Nat) (a0 a1 : Int) : Option Int := PI Cx K 85 [.sv (.one (.int .i64 a0)), .sv (.one (.int .i64 a1))]
noncomputable def f (a0 a1 : Int) : Option Int :=
 if (decide (a0 > a1)) = true then (some a0) else (some a1)
theorem e (K : Nat) (a0 a1 : Int) : p (K + 1) a0 a1 = f a0 a1 := PI_at Cx (by kernel_rfl)
theorem k {K : Nat} (h : 1 ≤ K) (a0 a1 : Int) : Le (f a0 a1) (p K a0 a1) := by
 obtain ⟨K, rfl⟩ := pos_of_le h
 rw [e]
 exact Le.rfl
end spec_l1Most
namespace spec_l1Abs
noncomputable def p (K : Nat) (a0 : Int) : Option Int := PI Cx K 69 [.sv (.one (.int .i64 a0))]
noncomputable def b (g0 : Int → Int → Option Int) (a0 : Int) : Option Int :=
 (g0 a0 (W (0 - a0))).bind fun t0 =>
 some t0
noncomputable def f (a0 : Int) : Option Int := b spec_l1Most.f a0
theorem e (K : Nat) (a0 : Int) : p (K + 1) a0 = b (spec_l1Most.p K) a0 := PI_at Cx (by kernel_rfl)
theorem k {K : Nat} (h : 2 ≤ K) (a0 : Int) : Le (f a0) (p K a0) := by
 obtain ⟨K, rfl⟩ := pos_of_le (show 0 + 1 ≤ K by omega)
 rw [e]
 unfold f b
 repeat' first | with_reducible apply Le.bind | with_reducible apply Le.ite | with_reducible exact Le.rfl | with_reducible refine spec_l1Most.k ?_ _ _ | with_reducible intro _ | omega
end spec_l1Abs
namespace spec_pzText
noncomputable def p (K : Nat) (a0 : List (Int × (Int × Int))) : Option ByteArray := PI Cx K 45 [.sv (.agg [.sl 48 (.pair (.int .i64) (.pair (.int .i64) (.int .i64))) a0])]
noncomputable def q0 (K m : Nat) (x0 : ByteArray) (x1 : List (Int × (Int × Int))) (x2 x3 : Int) : Option ByteArray := runAt Cx K 45 [true, true, false, true, true] [m] ⟨[(3, .sv (.one (.str x0))), (7, .sv (.one (.sl 48 (.pair (.int .i64) (.pair (.int .i64) (.int .i64))) x1))), (8, .sv (.one (.int .i64 x2))), (9, .sv (.one (.int .i64 x3)))], [], []⟩
noncomputable def b (L0 : ByteArray → List (Int × (Int × Int)) → Int → Int → Option ByteArray) (a0 : List (Int × (Int × Int))) : Option ByteArray :=
 L0 (bs []) a0 (dlen a0) 0
noncomputable def b0 (L0 : ByteArray → List (Int × (Int × Int)) → Int → Int → Option ByteArray) (g0 : Int → Option ByteArray) (g1 : Int → Option Int) (x0 : ByteArray) (x1 : List (Int × (Int × Int))) (x2 x3 : Int) : Option ByteArray :=
 if (decide (x3 < x2)) = true then (if 0 ≤ x3 then (if x3 < (dlen x1) then (if (decide (x3 > 0)) = true then (if ((ByteArray.size x0) + 1) ≤ maxLen then ((g0 (rd (0, (0, 0)) x1 x3).1).bind fun t0 =>
 if ((ByteArray.size t0) + 1) ≤ maxLen then ((g0 (rd (0, (0, 0)) x1 x3).2.1).bind fun t1 =>
 if ((ByteArray.size (t0 ++ (bs [46]))) + (ByteArray.size t1)) ≤ maxLen then (if ((ByteArray.size ((t0 ++ (bs [46])) ++ t1)) + 1) ≤ maxLen then (if ((ByteArray.size (x0 ++ (bs [44]))) + (ByteArray.size (((t0 ++ (bs [46])) ++ t1) ++ (bs [46])))) ≤ maxLen then (if (decide ((rd (0, (0, 0)) x1 x3).2.2 < 0)) = true then (if ((ByteArray.size ((x0 ++ (bs [44])) ++ (((t0 ++ (bs [46])) ++ t1) ++ (bs [46])))) + 1) ≤ maxLen then ((g1 (rd (0, (0, 0)) x1 x3).2.2).bind fun t2 =>
 (g0 t2).bind fun t3 =>
 if ((ByteArray.size (((x0 ++ (bs [44])) ++ (((t0 ++ (bs [46])) ++ t1) ++ (bs [46]))) ++ (bs [45]))) + (ByteArray.size t3)) ≤ maxLen then (L0 ((((x0 ++ (bs [44])) ++ (((t0 ++ (bs [46])) ++ t1) ++ (bs [46]))) ++ (bs [45])) ++ t3) x1 x2 (W (x3 + 1))) else (none)) else (none)) else ((g1 (rd (0, (0, 0)) x1 x3).2.2).bind fun t2 =>
 (g0 t2).bind fun t3 =>
 if ((ByteArray.size ((x0 ++ (bs [44])) ++ (((t0 ++ (bs [46])) ++ t1) ++ (bs [46])))) + (ByteArray.size t3)) ≤ maxLen then (L0 (((x0 ++ (bs [44])) ++ (((t0 ++ (bs [46])) ++ t1) ++ (bs [46]))) ++ t3) x1 x2 (W (x3 + 1))) else (none))) else (none)) else (none)) else (none)) else (none)) else (none)) else ((g0 (rd (0, (0, 0)) x1 x3).1).bind fun t0 =>
 if ((ByteArray.size t0) + 1) ≤ maxLen then ((g0 (rd (0, (0, 0)) x1 x3).2.1).bind fun t1 =>
 if ((ByteArray.size (t0 ++ (bs [46]))) + (ByteArray.size t1)) ≤ maxLen then (if ((ByteArray.size ((t0 ++ (bs [46])) ++ t1)) + 1) ≤ maxLen then (if ((ByteArray.size x0) + (ByteArray.size (((t0 ++ (bs [46])) ++ t1) ++ (bs [46])))) ≤ maxLen then (if (decide ((rd (0, (0, 0)) x1 x3).2.2 < 0)) = true then (if ((ByteArray.size (x0 ++ (((t0 ++ (bs [46])) ++ t1) ++ (bs [46])))) + 1) ≤ maxLen then ((g1 (rd (0, (0, 0)) x1 x3).2.2).bind fun t2 =>
 (g0 t2).bind fun t3 =>
 if ((ByteArray.size ((x0 ++ (((t0 ++ (bs [46])) ++ t1) ++ (bs [46]))) ++ (bs [45]))) + (ByteArray.size t3)) ≤ maxLen then (L0 (((x0 ++ (((t0 ++ (bs [46])) ++ t1) ++ (bs [46]))) ++ (bs [45])) ++ t3) x1 x2 (W (x3 + 1))) else (none)) else (none)) else ((g1 (rd (0, (0, 0)) x1 x3).2.2).bind fun t2 =>
 (g0 t2).bind fun t3 =>
 if ((ByteArray.size (x0 ++ (((t0 ++ (bs [46])) ++ t1) ++ (bs [46])))) + (ByteArray.size t3)) ≤ maxLen then (L0 ((x0 ++ (((t0 ++ (bs [46])) ++ t1) ++ (bs [46]))) ++ t3) x1 x2 (W (x3 + 1))) else (none))) else (none)) else (none)) else (none)) else (none))) else (none)) else (none)) else (some x0)
noncomputable def l0 : Nat → ByteArray → List (Int × (Int × Int)) → Int → Int → Option ByteArray
 | 0, _, _, _, _ => none
 | k + 1, x0, x1, x2, x3 => b0 (l0 k) (spec_l1Num.f k) spec_l1Abs.f x0 x1 x2 x3
noncomputable def f (k : Nat) (a0 : List (Int × (Int × Int))) : Option ByteArray := b (l0 k) a0
theorem e (K : Nat) (a0 : List (Int × (Int × Int))) : p (K + 1) a0 = b (q0 K K) a0 := PI_at Cx (by kernel_rfl)
theorem e0 (K m : Nat) (x0 : ByteArray) (x1 : List (Int × (Int × Int))) (x2 x3 : Int) : q0 K (m + 1) x0 x1 x2 x3 = b0 (q0 K m) (spec_l1Num.p K) (spec_l1Abs.p K) x0 x1 x2 x3 := by kernel_rfl
theorem kl (n : Nat) : ∀ K, n + 2 ≤ K → (∀ m, n ≤ m → ∀ (x0 : ByteArray) (x1 : List (Int × (Int × Int))) (x2 x3 : Int), Le (l0 n x0 x1 x2 x3) (q0 K m x0 x1 x2 x3)) := by
 induction n with
 | zero => exact fun K _ => fun _ _ _ _ _ _ => Le.none
 | succ n ih =>
  intro K hK
  have ih := ih K (by omega)
  intro m hm x0 x1 x2 x3
  obtain ⟨m, rfl⟩ := pos_of_le hm
  rw [e0]
  show Le (b0 (l0 n) (spec_l1Num.f n) spec_l1Abs.f x0 x1 x2 x3) _
  unfold b0
  repeat' first | with_reducible apply Le.bind | with_reducible apply Le.ite | with_reducible exact Le.rfl | with_reducible refine ih _ ?_ _ _ _ _ | with_reducible refine spec_l1Num.k ?_ _ | with_reducible refine spec_l1Abs.k ?_ _ | with_reducible intro _ | omega
theorem k {n K : Nat} (h : n + 3 ≤ K) (a0 : List (Int × (Int × Int))) : Le (f n a0) (p K a0) := by
 obtain ⟨K, rfl⟩ := pos_of_le (show 0 + 1 ≤ K by omega)
 have kl := kl n K (by omega)
 rw [e]
 unfold f b
 repeat' first | with_reducible apply Le.bind | with_reducible apply Le.ite | with_reducible exact Le.rfl | with_reducible refine kl _ ?_ _ _ _ _ | with_reducible intro _ | omega
end spec_pzText
namespace spec_PuzzleText
noncomputable def p (K : Nat) (a0 : List (Int × (Int × Int))) : Option (ByteArray × Bool) := PI Cx K 22 [.sv (.agg [.sl 48 (.pair (.int .i64) (.pair (.int .i64) (.int .i64))) a0])]
noncomputable def b (g0 : List (Int × (Int × Int)) → Option Bool) (g1 : List (Int × (Int × Int)) → Option ByteArray) (a0 : List (Int × (Int × Int))) : Option (ByteArray × Bool) :=
 (g0 a0).bind fun t0 =>
 if (!t0) = true then (some ((bs []), false)) else ((g1 a0).bind fun t1 =>
 some (t1, true))
noncomputable def f (k : Nat) (a0 : List (Int × (Int × Int))) : Option (ByteArray × Bool) := b (spec_pzGood.f k) (spec_pzText.f k) a0
theorem e (K : Nat) (a0 : List (Int × (Int × Int))) : p (K + 1) a0 = b (spec_pzGood.p K) (spec_pzText.p K) a0 := PI_at Cx (by kernel_rfl)
theorem k {n K : Nat} (h : n + 4 ≤ K) (a0 : List (Int × (Int × Int))) : Le (f n a0) (p K a0) := by
 obtain ⟨K, rfl⟩ := pos_of_le (show 0 + 1 ≤ K by omega)
 rw [e]
 unfold f b
 repeat' first | with_reducible apply Le.bind | with_reducible apply Le.ite | with_reducible exact Le.rfl | with_reducible refine spec_pzGood.k ?_ _ | with_reducible refine spec_pzText.k ?_ _ | with_reducible intro _ | omega
end spec_PuzzleText
namespace laws_qSnails
noncomputable def p (K : Nat) (a0 a1 : List (Int × Int)) : Option Bool := PI Cx K 23 [.sv (.one (.sl 31 (.pair (.int .i64) (.int .i64)) a0)), .sv (.one (.sl 31 (.pair (.int .i64) (.int .i64)) a1))]
noncomputable def q0 (K m : Nat) (x0 x1 : List (Int × Int)) (x2 x3 : Int) : Option Bool := runAt Cx K 23 [true, true, false, true, true] [m] ⟨[(0, .sv (.one (.sl 31 (.pair (.int .i64) (.int .i64)) x0))), (1, .sv (.one (.sl 31 (.pair (.int .i64) (.int .i64)) x1))), (12, .sv (.one (.int .i64 x2))), (13, .sv (.one (.int .i64 x3)))], [], []⟩
noncomputable def b (L0 : List (Int × Int) → List (Int × Int) → Int → Int → Option Bool) (a0 a1 : List (Int × Int)) : Option Bool :=
 if ((dlen a0) != (dlen a1)) = true then (some false) else (L0 a0 a1 (dlen a0) 0)
noncomputable def b0 (L0 : List (Int × Int) → List (Int × Int) → Int → Int → Option Bool) (x0 x1 : List (Int × Int)) (x2 x3 : Int) : Option Bool :=
 if (decide (x3 < x2)) = true then (if 0 ≤ x3 then (if x3 < (dlen x0) then (if 0 ≤ x3 then (if x3 < (dlen x1) then (if (!(((rd (0, 0) x0 x3).1 == (rd (0, 0) x1 x3).1) && ((rd (0, 0) x0 x3).2 == (rd (0, 0) x1 x3).2))) = true then (some false) else (L0 x0 x1 x2 (W (x3 + 1)))) else (none)) else (none)) else (none)) else (none)) else (some true)
noncomputable def l0 : Nat → List (Int × Int) → List (Int × Int) → Int → Int → Option Bool
 | 0, _, _, _, _ => none
 | k + 1, x0, x1, x2, x3 => b0 (l0 k) x0 x1 x2 x3
noncomputable def f (k : Nat) (a0 a1 : List (Int × Int)) : Option Bool := b (l0 k) a0 a1
theorem e (K : Nat) (a0 a1 : List (Int × Int)) : p (K + 1) a0 a1 = b (q0 K K) a0 a1 := PI_at Cx (by kernel_rfl)
theorem e0 (K m : Nat) (x0 x1 : List (Int × Int)) (x2 x3 : Int) : q0 K (m + 1) x0 x1 x2 x3 = b0 (q0 K m) x0 x1 x2 x3 := by kernel_rfl
theorem kl (n : Nat) : ∀ K, n + 0 ≤ K → (∀ m, n ≤ m → ∀ (x0 x1 : List (Int × Int)) (x2 x3 : Int), Le (l0 n x0 x1 x2 x3) (q0 K m x0 x1 x2 x3)) := by
 induction n with
 | zero => exact fun K _ => fun _ _ _ _ _ _ => Le.none
 | succ n ih =>
  intro K hK
  have ih := ih K (by omega)
  intro m hm x0 x1 x2 x3
  obtain ⟨m, rfl⟩ := pos_of_le hm
  rw [e0]
  show Le (b0 (l0 n) x0 x1 x2 x3) _
  unfold b0
  repeat' first | with_reducible apply Le.bind | with_reducible apply Le.ite | with_reducible exact Le.rfl | with_reducible refine ih _ ?_ _ _ _ _ | with_reducible intro _ | omega
theorem k {n K : Nat} (h : n + 1 ≤ K) (a0 a1 : List (Int × Int)) : Le (f n a0 a1) (p K a0 a1) := by
 obtain ⟨K, rfl⟩ := pos_of_le (show 0 + 1 ≤ K by omega)
 have kl := kl n K (by omega)
 rw [e]
 unfold f b
 repeat' first | with_reducible apply Le.bind | with_reducible apply Le.ite | with_reducible exact Le.rfl | with_reducible refine kl _ ?_ _ _ _ _ | with_reducible intro _ | omega
end laws_qSnails
namespace laws_qSame
noncomputable def p (K : Nat) (a0 a1 : List Int) : Option Bool := PI Cx K 24 [.sv (.one (.sl 3 (.int .i64) a0)), .sv (.one (.sl 3 (.int .i64) a1))]
noncomputable def q0 (K m : Nat) (x0 x1 : List Int) (x2 x3 : Int) : Option Bool := runAt Cx K 24 [true, true, false, true, true] [m] ⟨[(0, .sv (.one (.sl 3 (.int .i64) x0))), (1, .sv (.one (.sl 3 (.int .i64) x1))), (12, .sv (.one (.int .i64 x2))), (13, .sv (.one (.int .i64 x3)))], [], []⟩
noncomputable def b (L0 : List Int → List Int → Int → Int → Option Bool) (a0 a1 : List Int) : Option Bool :=
 if ((dlen a0) != (dlen a1)) = true then (some false) else (L0 a0 a1 (dlen a0) 0)
noncomputable def b0 (L0 : List Int → List Int → Int → Int → Option Bool) (x0 x1 : List Int) (x2 x3 : Int) : Option Bool :=
 if (decide (x3 < x2)) = true then (if 0 ≤ x3 then (if x3 < (dlen x0) then (if 0 ≤ x3 then (if x3 < (dlen x1) then (if ((rd 0 x0 x3) != (rd 0 x1 x3)) = true then (some false) else (L0 x0 x1 x2 (W (x3 + 1)))) else (none)) else (none)) else (none)) else (none)) else (some true)
noncomputable def l0 : Nat → List Int → List Int → Int → Int → Option Bool
 | 0, _, _, _, _ => none
 | k + 1, x0, x1, x2, x3 => b0 (l0 k) x0 x1 x2 x3
noncomputable def f (k : Nat) (a0 a1 : List Int) : Option Bool := b (l0 k) a0 a1
theorem e (K : Nat) (a0 a1 : List Int) : p (K + 1) a0 a1 = b (q0 K K) a0 a1 := PI_at Cx (by kernel_rfl)
theorem e0 (K m : Nat) (x0 x1 : List Int) (x2 x3 : Int) : q0 K (m + 1) x0 x1 x2 x3 = b0 (q0 K m) x0 x1 x2 x3 := by kernel_rfl
theorem kl (n : Nat) : ∀ K, n + 0 ≤ K → (∀ m, n ≤ m → ∀ (x0 x1 : List Int) (x2 x3 : Int), Le (l0 n x0 x1 x2 x3) (q0 K m x0 x1 x2 x3)) := by
 induction n with
 | zero => exact fun K _ => fun _ _ _ _ _ _ => Le.none
 | succ n ih =>
  intro K hK
  have ih := ih K (by omega)
  intro m hm x0 x1 x2 x3
  obtain ⟨m, rfl⟩ := pos_of_le hm
  rw [e0]
  show Le (b0 (l0 n) x0 x1 x2 x3) _
  unfold b0
  repeat' first | with_reducible apply Le.bind | with_reducible apply Le.ite | with_reducible exact Le.rfl | with_reducible refine ih _ ?_ _ _ _ _ | with_reducible intro _ | omega
theorem k {n K : Nat} (h : n + 1 ≤ K) (a0 a1 : List Int) : Le (f n a0 a1) (p K a0 a1) := by
 obtain ⟨K, rfl⟩ := pos_of_le (show 0 + 1 ≤ K by omega)
 have kl := kl n K (by omega)
 rw [e]
 unfold f b
 repeat' first | with_reducible apply Le.bind | with_reducible apply Le.ite | with_reducible exact Le.rfl | with_reducible refine kl _ ?_ _ _ _ _ | with_reducible intro _ | omega
end laws_qSame
namespace spec_IsPuzzle
noncomputable def p (K : Nat) (a0 : List (Int × (Int × Int))) : Option Bool := PI Cx K 26 [.sv (.agg [.sl 48 (.pair (.int .i64) (.pair (.int .i64) (.int .i64))) a0])]
noncomputable def b (g0 : List (Int × (Int × Int)) → Option Bool) (a0 : List (Int × (Int × Int))) : Option Bool :=
 (g0 a0).bind fun t0 =>
 some t0
noncomputable def f (k : Nat) (a0 : List (Int × (Int × Int))) : Option Bool := b (spec_pzGood.f k) a0
theorem e (K : Nat) (a0 : List (Int × (Int × Int))) : p (K + 1) a0 = b (spec_pzGood.p K) a0 := PI_at Cx (by kernel_rfl)
theorem k {n K : Nat} (h : n + 4 ≤ K) (a0 : List (Int × (Int × Int))) : Le (f n a0) (p K a0) := by
 obtain ⟨K, rfl⟩ := pos_of_le (show 0 + 1 ≤ K by omega)
 rw [e]
 unfold f b
 repeat' first | with_reducible apply Le.bind | with_reducible apply Le.ite | with_reducible exact Le.rfl | with_reducible refine spec_pzGood.k ?_ _ | with_reducible intro _ | omega
end spec_IsPuzzle
namespace strings_Split
noncomputable def p (K : Nat) (a0 a1 : ByteArray) : Option (List ByteArray) := PI Cx K 52 [.sv (.one (.str a0)), .sv (.one (.str a1))]
noncomputable def f (a0 a1 : ByteArray) : Option (List ByteArray) := handSplit a0 a1
theorem e (K : Nat) (a0 a1 : ByteArray) : p (K + 1) a0 a1 = f a0 a1 := PI_at Cx (by kernel_rfl)
theorem k {K : Nat} (h : 1 ≤ K) (a0 a1 : ByteArray) : Le (f a0 a1) (p K a0 a1) := by
 obtain ⟨K, rfl⟩ := pos_of_le h
 rw [e]
 exact Le.rfl
end strings_Split
namespace impl_readNumber
noncomputable def p (K : Nat) (a0 : ByteArray) : Option (Int × Bool) := PI Cx K 73 [.sv (.one (.str a0))]
noncomputable def f (a0 : ByteArray) : Option (Int × Bool) := handNumber a0
theorem e (K : Nat) (a0 : ByteArray) : p (K + 1) a0 = f a0 := PI_at Cx (by kernel_rfl)
theorem k {K : Nat} (h : 1 ≤ K) (a0 : ByteArray) : Le (f a0) (p K a0) := by
 obtain ⟨K, rfl⟩ := pos_of_le h
 rw [e]
 exact Le.rfl
end impl_readNumber
namespace impl_readNumbers
noncomputable def p (K : Nat) (a0 a1 : ByteArray) : Option ((List Int) × Bool) := PI Cx K 53 [.sv (.one (.str a0)), .sv (.one (.str a1))]
noncomputable def q0 (K m : Nat) (x0 : List ByteArray) (x1 x2 : Int) (x3 : List Int) : Option ((List Int) × Bool) := runAt Cx K 53 [true, true, false, true, true] [m] ⟨[(6, .sv (.one (.full 1000000006000))), (13, .sv (.one (.sl 9 (.str) x0))), (14, .sv (.one (.int .i64 x1))), (15, .sv (.one (.int .i64 x2)))], [(1000000006000, .row 3 (.int .i64) x3 .own)], []⟩
noncomputable def b (L0 : List ByteArray → Int → Int → List Int → Option ((List Int) × Bool)) (g0 : ByteArray → ByteArray → Option (List ByteArray)) (a0 a1 : ByteArray) : Option ((List Int) × Bool) :=
 (g0 a0 a1).bind fun t0 =>
 L0 t0 (dlen t0) 0 ([] : List Int)
noncomputable def b0 (L0 : List ByteArray → Int → Int → List Int → Option ((List Int) × Bool)) (g1 : ByteArray → Option (Int × Bool)) (x0 : List ByteArray) (x1 x2 : Int) (x3 : List Int) : Option ((List Int) × Bool) :=
 if (decide (x2 < x1)) = true then (if 0 ≤ x2 then (if x2 < (dlen x0) then ((g1 (rd (bs []) x0 x2)).bind fun t0 =>
 if (!t0.2) = true then (some (([] : List Int), false)) else (if ((dlenN x3) + 1) ≤ 17592186044416 then (L0 x0 x1 (W (x2 + 1)) (x3 ++ [t0.1])) else (none))) else (none)) else (none)) else (some (x3, true))
noncomputable def l0 : Nat → List ByteArray → Int → Int → List Int → Option ((List Int) × Bool)
 | 0, _, _, _, _ => none
 | k + 1, x0, x1, x2, x3 => b0 (l0 k) impl_readNumber.f x0 x1 x2 x3
noncomputable def f (k : Nat) (a0 a1 : ByteArray) : Option ((List Int) × Bool) := b (l0 k) strings_Split.f a0 a1
theorem e (K : Nat) (a0 a1 : ByteArray) : p (K + 1) a0 a1 = b (q0 K K) (strings_Split.p K) a0 a1 := PI_at Cx (by kernel_rfl)
theorem e0 (K m : Nat) (x0 : List ByteArray) (x1 x2 : Int) (x3 : List Int) : q0 K (m + 1) x0 x1 x2 x3 = b0 (q0 K m) (impl_readNumber.p K) x0 x1 x2 x3 := by kernel_rfl
theorem kl (n : Nat) : ∀ K, n + 1 ≤ K → (∀ m, n ≤ m → ∀ (x0 : List ByteArray) (x1 x2 : Int) (x3 : List Int), Le (l0 n x0 x1 x2 x3) (q0 K m x0 x1 x2 x3)) := by
 induction n with
 | zero => exact fun K _ => fun _ _ _ _ _ _ => Le.none
 | succ n ih =>
  intro K hK
  have ih := ih K (by omega)
  intro m hm x0 x1 x2 x3
  obtain ⟨m, rfl⟩ := pos_of_le hm
  rw [e0]
  show Le (b0 (l0 n) impl_readNumber.f x0 x1 x2 x3) _
  unfold b0
  repeat' first | with_reducible apply Le.bind | with_reducible apply Le.ite | with_reducible exact Le.rfl | with_reducible refine ih _ ?_ _ _ _ _ | with_reducible refine impl_readNumber.k ?_ _ | with_reducible intro _ | omega
theorem k {n K : Nat} (h : n + 2 ≤ K) (a0 a1 : ByteArray) : Le (f n a0 a1) (p K a0 a1) := by
 obtain ⟨K, rfl⟩ := pos_of_le (show 0 + 1 ≤ K by omega)
 have kl := kl n K (by omega)
 rw [e]
 unfold f b
 repeat' first | with_reducible apply Le.bind | with_reducible apply Le.ite | with_reducible exact Le.rfl | with_reducible refine kl _ ?_ _ _ _ _ | with_reducible refine strings_Split.k ?_ _ _ | with_reducible intro _ | omega
end impl_readNumbers
namespace impl_ParsePuzzle
noncomputable def p (K : Nat) (a0 : ByteArray) : Option ((List (Int × (Int × Int))) × Bool) := PI Cx K 31 [.sv (.one (.str a0))]
noncomputable def q0 (K m : Nat) (x0 : List ByteArray) (x1 x2 : Int) (x3 : List (Int × (Int × Int))) : Option ((List (Int × (Int × Int))) × Bool) := runAt Cx K 31 [true, true, true, false, true, true] [m] ⟨[(2, .sv (.one (.ptr 0 0))), (4, .sv (.one (.ptr 1000000 0))), (13, .sv (.one (.sl 9 (.str) x0))), (14, .sv (.one (.int .i64 x1))), (15, .sv (.one (.int .i64 x2)))], [(0, .box 24 [.nilsl]), (1000000, .box 24 [.full 2000001000000000]), (2000001000000000, .row 48 (.pair (.int .i64) (.pair (.int .i64) (.int .i64))) x3 .own)], []⟩
noncomputable def b (L0 : List ByteArray → Int → Int → List (Int × (Int × Int)) → Option ((List (Int × (Int × Int))) × Bool)) (g0 : ByteArray → ByteArray → Option (List ByteArray)) (a0 : ByteArray) : Option ((List (Int × (Int × Int))) × Bool) :=
 if (seq a0 (bs [])) = true then (some (([] : List (Int × (Int × Int))), true)) else ((g0 a0 (bs [44])).bind fun t0 =>
 L0 t0 (dlen t0) 0 ([] : List (Int × (Int × Int))))
noncomputable def b0 (L0 : List ByteArray → Int → Int → List (Int × (Int × Int)) → Option ((List (Int × (Int × Int))) × Bool)) (g1 : ByteArray → ByteArray → Option ((List Int) × Bool)) (g2 : List (Int × (Int × Int)) → Option Bool) (x0 : List ByteArray) (x1 x2 : Int) (x3 : List (Int × (Int × Int))) : Option ((List (Int × (Int × Int))) × Bool) :=
 if (decide (x2 < x1)) = true then (if 0 ≤ x2 then (if x2 < (dlen x0) then ((g1 (rd (bs []) x0 x2) (bs [46])).bind fun t0 =>
 if (!t0.2) = true then (some (([] : List (Int × (Int × Int))), false)) else (if ((dlen t0.1) != 3) = true then (some (([] : List (Int × (Int × Int))), false)) else (if 0 < (dlen t0.1) then (if 1 < (dlen t0.1) then (if 2 < (dlen t0.1) then (if ((dlenN x3) + 1) ≤ 5864062014805 then (L0 x0 x1 (W (x2 + 1)) (x3 ++ [((rd 0 t0.1 0), ((rd 0 t0.1 1), (rd 0 t0.1 2)))])) else (none)) else (none)) else (none)) else (none)))) else (none)) else (none)) else ((g2 x3).bind fun t0 =>
 if (!t0) = true then (some (([] : List (Int × (Int × Int))), false)) else (some (x3, true)))
noncomputable def l0 : Nat → List ByteArray → Int → Int → List (Int × (Int × Int)) → Option ((List (Int × (Int × Int))) × Bool)
 | 0, _, _, _, _ => none
 | k + 1, x0, x1, x2, x3 => b0 (l0 k) (impl_readNumbers.f k) (impl_IsPuzzle.f k) x0 x1 x2 x3
noncomputable def f (k : Nat) (a0 : ByteArray) : Option ((List (Int × (Int × Int))) × Bool) := b (l0 k) strings_Split.f a0
theorem e (K : Nat) (a0 : ByteArray) : p (K + 1) a0 = b (q0 K K) (strings_Split.p K) a0 := PI_at Cx (by kernel_rfl)
theorem e0 (K m : Nat) (x0 : List ByteArray) (x1 x2 : Int) (x3 : List (Int × (Int × Int))) : q0 K (m + 1) x0 x1 x2 x3 = b0 (q0 K m) (impl_readNumbers.p K) (impl_IsPuzzle.p K) x0 x1 x2 x3 := by kernel_rfl
theorem kl (n : Nat) : ∀ K, n + 6 ≤ K → (∀ m, n ≤ m → ∀ (x0 : List ByteArray) (x1 x2 : Int) (x3 : List (Int × (Int × Int))), Le (l0 n x0 x1 x2 x3) (q0 K m x0 x1 x2 x3)) := by
 induction n with
 | zero => exact fun K _ => fun _ _ _ _ _ _ => Le.none
 | succ n ih =>
  intro K hK
  have ih := ih K (by omega)
  intro m hm x0 x1 x2 x3
  obtain ⟨m, rfl⟩ := pos_of_le hm
  rw [e0]
  show Le (b0 (l0 n) (impl_readNumbers.f n) (impl_IsPuzzle.f n) x0 x1 x2 x3) _
  unfold b0
  repeat' first | with_reducible apply Le.bind | with_reducible apply Le.ite | with_reducible exact Le.rfl | with_reducible refine ih _ ?_ _ _ _ _ | with_reducible refine impl_readNumbers.k ?_ _ _ | with_reducible refine impl_IsPuzzle.k ?_ _ | with_reducible intro _ | omega
theorem k {n K : Nat} (h : n + 7 ≤ K) (a0 : ByteArray) : Le (f n a0) (p K a0) := by
 obtain ⟨K, rfl⟩ := pos_of_le (show 0 + 1 ≤ K by omega)
 have kl := kl n K (by omega)
 rw [e]
 unfold f b
 repeat' first | with_reducible apply Le.bind | with_reducible apply Le.ite | with_reducible exact Le.rfl | with_reducible refine kl _ ?_ _ _ _ _ | with_reducible refine strings_Split.k ?_ _ _ | with_reducible intro _ | omega
end impl_ParsePuzzle
namespace spec_l1Split
noncomputable def p (K : Nat) (a0 : ByteArray) (a1 : Int) : Option (List ByteArray) := PI Cx K 74 [.sv (.one (.str a0)), .sv (.one (.int .u8 a1))]
noncomputable def q0 (K m : Nat) (x0 : ByteArray) (x1 x2 x3 : Int) (x4 : List ByteArray) : Option (List ByteArray) := runAt Cx K 74 [true, true, true, false, true, true] [m] ⟨[(0, .sv (.one (.str x0))), (1, .sv (.one (.int .u8 x1))), (5, .sv (.one (.full 1000000005000))), (6, .sv (.one (.int .i64 x2))), (7, .sv (.one (.int .i64 x3)))], [(1000000005000, .row 9 (.str) x4 .own)], []⟩
noncomputable def b (L0 : ByteArray → Int → Int → Int → List ByteArray → Option (List ByteArray)) (a0 : ByteArray) (a1 : Int) : Option (List ByteArray) :=
 L0 a0 a1 0 0 ([] : List ByteArray)
noncomputable def b0 (L0 : ByteArray → Int → Int → Int → List ByteArray → Option (List ByteArray)) (x0 : ByteArray) (x1 x2 x3 : Int) (x4 : List ByteArray) : Option (List ByteArray) :=
 if (decide (x3 < (slen x0))) = true then (if 0 ≤ x3 then (if x3 < (slen x0) then (if ((bat x0 x3) == x1) = true then (if 0 ≤ x2 then (if x2 ≤ x3 then (if x3 ≤ (slen x0) then (if ((dlenN x4) + 1) ≤ 8796093022208 then (L0 x0 x1 (W (x3 + 1)) (W (x3 + 1)) (x4 ++ [(ByteArray.extract x0 (Int.toNat x2) (Int.toNat x3))])) else (none)) else (none)) else (none)) else (none)) else (L0 x0 x1 x2 (W (x3 + 1)) x4)) else (none)) else (none)) else (if 0 ≤ x2 then (if x2 ≤ (slen x0) then (if ((dlenN x4) + 1) ≤ 8796093022208 then (some (x4 ++ [(ByteArray.extract x0 (Int.toNat x2) (Int.toNat (slen x0)))])) else (none)) else (none)) else (none))
noncomputable def l0 : Nat → ByteArray → Int → Int → Int → List ByteArray → Option (List ByteArray)
 | 0, _, _, _, _, _ => none
 | k + 1, x0, x1, x2, x3, x4 => b0 (l0 k) x0 x1 x2 x3 x4
noncomputable def f (k : Nat) (a0 : ByteArray) (a1 : Int) : Option (List ByteArray) := b (l0 k) a0 a1
theorem e (K : Nat) (a0 : ByteArray) (a1 : Int) : p (K + 1) a0 a1 = b (q0 K K) a0 a1 := PI_at Cx (by kernel_rfl)
theorem e0 (K m : Nat) (x0 : ByteArray) (x1 x2 x3 : Int) (x4 : List ByteArray) : q0 K (m + 1) x0 x1 x2 x3 x4 = b0 (q0 K m) x0 x1 x2 x3 x4 := by kernel_rfl
theorem kl (n : Nat) : ∀ K, n + 0 ≤ K → (∀ m, n ≤ m → ∀ (x0 : ByteArray) (x1 x2 x3 : Int) (x4 : List ByteArray), Le (l0 n x0 x1 x2 x3 x4) (q0 K m x0 x1 x2 x3 x4)) := by
 induction n with
 | zero => exact fun K _ => fun _ _ _ _ _ _ _ => Le.none
 | succ n ih =>
  intro K hK
  have ih := ih K (by omega)
  intro m hm x0 x1 x2 x3 x4
  obtain ⟨m, rfl⟩ := pos_of_le hm
  rw [e0]
  show Le (b0 (l0 n) x0 x1 x2 x3 x4) _
  unfold b0
  repeat' first | with_reducible apply Le.bind | with_reducible apply Le.ite | with_reducible exact Le.rfl | with_reducible refine ih _ ?_ _ _ _ _ _ | with_reducible intro _ | omega
theorem k {n K : Nat} (h : n + 1 ≤ K) (a0 : ByteArray) (a1 : Int) : Le (f n a0 a1) (p K a0 a1) := by
 obtain ⟨K, rfl⟩ := pos_of_le (show 0 + 1 ≤ K by omega)
 have kl := kl n K (by omega)
 rw [e]
 unfold f b
 repeat' first | with_reducible apply Le.bind | with_reducible apply Le.ite | with_reducible exact Le.rfl | with_reducible refine kl _ ?_ _ _ _ _ _ | with_reducible intro _ | omega
end spec_l1Split
end Go.Proofs.YtlibgicponpecaaGreatDoor.Ga
