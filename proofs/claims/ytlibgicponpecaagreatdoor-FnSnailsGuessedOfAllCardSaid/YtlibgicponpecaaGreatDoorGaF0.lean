import Derived.Test.YtlibgicponpecaaGreatDoorGaC
namespace Go.Proofs.YtlibgicponpecaaGreatDoor.Ga
open Go Go.Proofs.YtlibgicponpecaaGreatDoorPi Go.RowKit
set_option maxRecDepth 100000
set_option linter.unusedVariables false
namespace impl_within
noncomputable def p (K : Nat) (a0 a1 a2 : Int) : Option Bool := PI Cx K 49 [.sv (.one (.int .i64 a0)), .sv (.one (.int .i64 a1)), .sv (.one (.int .i64 a2))]
noncomputable def f (a0 a1 a2 : Int) : Option Bool :=
 if (decide (a0 ≥ a1)) = true then (some (decide (a0 ≤ a2))) else (some false)
theorem e (K : Nat) (a0 a1 a2 : Int) : p (K + 1) a0 a1 a2 = f a0 a1 a2 := PI_at Cx (by kernel_rfl)
theorem k {K : Nat} (h : 1 ≤ K) (a0 a1 a2 : Int) : Le (f a0 a1 a2) (p K a0 a1 a2) := by
 obtain ⟨K, rfl⟩ := pos_of_le h
 rw [e]
 exact Le.rfl
end impl_within
namespace impl_IsClue
noncomputable def p (K : Nat) (a0 a1 a2 : Int) : Option Bool := PI Cx K 48 [.sv (.agg [.int .i64 a0, .int .i64 a1, .int .i64 a2])]
noncomputable def b (g0 : Int → Int → Int → Option Bool) (a0 a1 a2 : Int) : Option Bool :=
 if (a0 == 0) = true then ((g0 a1 1 100).bind fun t0 =>
 if t0 = true then ((g0 a2 0 100).bind fun t1 =>
 some t1) else (some false)) else (if (a0 == 1) = true then ((g0 a1 1 100).bind fun t0 =>
 if t0 = true then ((g0 a2 1 100).bind fun t1 =>
 some t1) else (some false)) else (if (a0 == 2) = true then (if (a1 == 0) = true then ((g0 a2 0 24).bind fun t0 =>
 some t0) else (some false)) else (if (a0 == 3) = true then ((g0 a1 2 9).bind fun t0 =>
 if t0 = true then ((g0 a2 0 1).bind fun t1 =>
 some t1) else (some false)) else (if (a0 == 4) = true then (if (a1 == 0) = true then ((g0 a2 (-12) 12).bind fun t0 =>
 some t0) else (some false)) else (some false)))))
noncomputable def f (a0 a1 a2 : Int) : Option Bool := b impl_within.f a0 a1 a2
theorem e (K : Nat) (a0 a1 a2 : Int) : p (K + 1) a0 a1 a2 = b (impl_within.p K) a0 a1 a2 := PI_at Cx (by kernel_rfl)
theorem k {K : Nat} (h : 2 ≤ K) (a0 a1 a2 : Int) : Le (f a0 a1 a2) (p K a0 a1 a2) := by
 obtain ⟨K, rfl⟩ := pos_of_le (show 0 + 1 ≤ K by omega)
 rw [e]
 unfold f b
 repeat' first | with_reducible apply Le.bind | with_reducible apply Le.ite | with_reducible exact Le.rfl | with_reducible refine impl_within.k ?_ _ _ _ | with_reducible intro _ | omega
end impl_IsClue
namespace impl_IsPuzzle_1
noncomputable def p (K : Nat) (a0 a1 a2 : Int) : Option Bool := PI Cx K 47 [.sv (.agg [.int .i64 a0, .int .i64 a1, .int .i64 a2])]
noncomputable def b (g0 : Int → Int → Int → Option Bool) (a0 a1 a2 : Int) : Option Bool :=
 (g0 a0 a1 a2).bind fun t0 =>
 some (!t0)
noncomputable def f (a0 a1 a2 : Int) : Option Bool := b impl_IsClue.f a0 a1 a2
theorem e (K : Nat) (a0 a1 a2 : Int) : p (K + 1) a0 a1 a2 = b (impl_IsClue.p K) a0 a1 a2 := PI_at Cx (by kernel_rfl)
theorem k {K : Nat} (h : 3 ≤ K) (a0 a1 a2 : Int) : Le (f a0 a1 a2) (p K a0 a1 a2) := by
 obtain ⟨K, rfl⟩ := pos_of_le (show 0 + 1 ≤ K by omega)
 rw [e]
 unfold f b
 repeat' first | with_reducible apply Le.bind | with_reducible apply Le.ite | with_reducible exact Le.rfl | with_reducible refine impl_IsClue.k ?_ _ _ _ | with_reducible intro _ | omega
end impl_IsPuzzle_1
namespace slices_IndexFunc_impl_Clue_impl_Clue_impl_IsPuzzle_1
noncomputable def p (K : Nat) (a0 : List (Int × (Int × Int))) : Option Int := PI Cx K 70 [.sv (.one (.sl 48 (.pair (.int .i64) (.pair (.int .i64) (.int .i64))) a0)), .sv (.one (.fn 47 []))]
noncomputable def q0 (K m : Nat) (x0 : List (Int × (Int × Int))) (x1 x2 : Int) : Option Int := runAt Cx K 70 [true, false, true, true] [m] ⟨[(0, .sv (.one (.sl 48 (.pair (.int .i64) (.pair (.int .i64) (.int .i64))) x0))), (1, .sv (.one (.fn 47 []))), (7, .sv (.one (.int .i64 x1))), (8, .sv (.one (.int .i64 x2)))], [], []⟩
noncomputable def b (L0 : List (Int × (Int × Int)) → Int → Int → Option Int) (a0 : List (Int × (Int × Int))) : Option Int :=
 L0 a0 (dlen a0) 0
noncomputable def b0 (L0 : List (Int × (Int × Int)) → Int → Int → Option Int) (g0 : Int → Int → Int → Option Bool) (x0 : List (Int × (Int × Int))) (x1 x2 : Int) : Option Int :=
 if (decide (x2 < x1)) = true then (if 0 ≤ x2 then (if x2 < (dlen x0) then ((g0 (rd (0, (0, 0)) x0 x2).1 (rd (0, (0, 0)) x0 x2).2.1 (rd (0, (0, 0)) x0 x2).2.2).bind fun t0 =>
 if t0 = true then (some x2) else (L0 x0 x1 (W (x2 + 1)))) else (none)) else (none)) else (some (-1))
noncomputable def l0 : Nat → List (Int × (Int × Int)) → Int → Int → Option Int
 | 0, _, _, _ => none
 | k + 1, x0, x1, x2 => b0 (l0 k) impl_IsPuzzle_1.f x0 x1 x2
noncomputable def f (k : Nat) (a0 : List (Int × (Int × Int))) : Option Int := b (l0 k) a0
theorem e (K : Nat) (a0 : List (Int × (Int × Int))) : p (K + 1) a0 = b (q0 K K) a0 := PI_at Cx (by kernel_rfl)
theorem e0 (K m : Nat) (x0 : List (Int × (Int × Int))) (x1 x2 : Int) : q0 K (m + 1) x0 x1 x2 = b0 (q0 K m) (impl_IsPuzzle_1.p K) x0 x1 x2 := by kernel_rfl
theorem kl (n : Nat) : ∀ K, n + 3 ≤ K → (∀ m, n ≤ m → ∀ (x0 : List (Int × (Int × Int))) (x1 x2 : Int), Le (l0 n x0 x1 x2) (q0 K m x0 x1 x2)) := by
 induction n with
 | zero => exact fun K _ => fun _ _ _ _ _ => Le.none
 | succ n ih =>
  intro K hK
  have ih := ih K (by omega)
  intro m hm x0 x1 x2
  obtain ⟨m, rfl⟩ := pos_of_le hm
  rw [e0]
  show Le (b0 (l0 n) impl_IsPuzzle_1.f x0 x1 x2) _
  unfold b0
  repeat' first | with_reducible apply Le.bind | with_reducible apply Le.ite | with_reducible exact Le.rfl | with_reducible refine ih _ ?_ _ _ _ | with_reducible refine impl_IsPuzzle_1.k ?_ _ _ _ | with_reducible intro _ | omega
theorem k {n K : Nat} (h : n + 4 ≤ K) (a0 : List (Int × (Int × Int))) : Le (f n a0) (p K a0) := by
 obtain ⟨K, rfl⟩ := pos_of_le (show 0 + 1 ≤ K by omega)
 have kl := kl n K (by omega)
 rw [e]
 unfold f b
 repeat' first | with_reducible apply Le.bind | with_reducible apply Le.ite | with_reducible exact Le.rfl | with_reducible refine kl _ ?_ _ _ _ | with_reducible intro _ | omega
end slices_IndexFunc_impl_Clue_impl_Clue_impl_IsPuzzle_1
namespace slices_ContainsFunc_impl_Clue_impl_Clue_impl_IsPuzzle_1
noncomputable def p (K : Nat) (a0 : List (Int × (Int × Int))) : Option Bool := PI Cx K 46 [.sv (.one (.sl 48 (.pair (.int .i64) (.pair (.int .i64) (.int .i64))) a0)), .sv (.one (.fn 47 []))]
noncomputable def b (g0 : List (Int × (Int × Int)) → Option Int) (a0 : List (Int × (Int × Int))) : Option Bool :=
 (g0 a0).bind fun t0 =>
 some (decide (t0 ≥ 0))
noncomputable def f (k : Nat) (a0 : List (Int × (Int × Int))) : Option Bool := b (slices_IndexFunc_impl_Clue_impl_Clue_impl_IsPuzzle_1.f k) a0
theorem e (K : Nat) (a0 : List (Int × (Int × Int))) : p (K + 1) a0 = b (slices_IndexFunc_impl_Clue_impl_Clue_impl_IsPuzzle_1.p K) a0 := PI_at Cx (by kernel_rfl)
theorem k {n K : Nat} (h : n + 5 ≤ K) (a0 : List (Int × (Int × Int))) : Le (f n a0) (p K a0) := by
 obtain ⟨K, rfl⟩ := pos_of_le (show 0 + 1 ≤ K by omega)
 rw [e]
 unfold f b
 repeat' first | with_reducible apply Le.bind | with_reducible apply Le.ite | with_reducible exact Le.rfl | with_reducible refine slices_IndexFunc_impl_Clue_impl_Clue_impl_IsPuzzle_1.k ?_ _ | with_reducible intro _ | omega
end slices_ContainsFunc_impl_Clue_impl_Clue_impl_IsPuzzle_1
namespace impl_IsPuzzle
noncomputable def p (K : Nat) (a0 : List (Int × (Int × Int))) : Option Bool := PI Cx K 25 [.sv (.agg [.sl 48 (.pair (.int .i64) (.pair (.int .i64) (.int .i64))) a0])]
noncomputable def b (g0 : List (Int × (Int × Int)) → Option Bool) (a0 : List (Int × (Int × Int))) : Option Bool :=
 if (decide ((dlen a0) ≤ 6)) = true then ((g0 a0).bind fun t0 =>
 some (!t0)) else (some false)
noncomputable def f (k : Nat) (a0 : List (Int × (Int × Int))) : Option Bool := b (slices_ContainsFunc_impl_Clue_impl_Clue_impl_IsPuzzle_1.f k) a0
theorem e (K : Nat) (a0 : List (Int × (Int × Int))) : p (K + 1) a0 = b (slices_ContainsFunc_impl_Clue_impl_Clue_impl_IsPuzzle_1.p K) a0 := PI_at Cx (by kernel_rfl)
theorem k {n K : Nat} (h : n + 6 ≤ K) (a0 : List (Int × (Int × Int))) : Le (f n a0) (p K a0) := by
 obtain ⟨K, rfl⟩ := pos_of_le (show 0 + 1 ≤ K by omega)
 rw [e]
 unfold f b
 repeat' first | with_reducible apply Le.bind | with_reducible apply Le.ite | with_reducible exact Le.rfl | with_reducible refine slices_ContainsFunc_impl_Clue_impl_Clue_impl_IsPuzzle_1.k ?_ _ | with_reducible intro _ | omega
end impl_IsPuzzle
namespace impl_dayOfHeight
noncomputable def p (K : Nat) (a0 a1 a2 : Int) : Option Int := PI Cx K 86 [.sv (.agg [.int .i64 a0, .int .i64 a1]), .sv (.one (.int .i64 a2))]
noncomputable def f (a0 a1 a2 : Int) : Option Int :=
 if (decide (a2 ≤ a0)) = true then (some 1) else (if (decide (a0 ≤ a1)) = true then (some 0) else (if (W (a0 - a1)) = 0 then (none) else (some (W (1 + (W (Int.tdiv (W ((W ((W (a2 - a0)) + (W (a0 - a1)))) - 1)) (W (a0 - a1)))))))))
theorem e (K : Nat) (a0 a1 a2 : Int) : p (K + 1) a0 a1 a2 = f a0 a1 a2 := PI_at Cx (by kernel_rfl)
theorem k {K : Nat} (h : 1 ≤ K) (a0 a1 a2 : Int) : Le (f a0 a1 a2) (p K a0 a1 a2) := by
 obtain ⟨K, rfl⟩ := pos_of_le h
 rw [e]
 exact Le.rfl
end impl_dayOfHeight
namespace impl_reachOf
noncomputable def p (K : Nat) (a0 a1 a2 : Int) : Option Int := PI Cx K 104 [.sv (.agg [.int .i64 a0, .int .i64 a1]), .sv (.one (.int .i64 a2))]
noncomputable def f (a0 a1 a2 : Int) : Option Int :=
 some (W (a0 + (W ((mx 0 (W (a0 - a1))) * (W (a2 - 1))))))
theorem e (K : Nat) (a0 a1 a2 : Int) : p (K + 1) a0 a1 a2 = f a0 a1 a2 := PI_at Cx (by kernel_rfl)
theorem k {K : Nat} (h : 1 ≤ K) (a0 a1 a2 : Int) : Le (f a0 a1 a2) (p K a0 a1 a2) := by
 obtain ⟨K, rfl⟩ := pos_of_le h
 rw [e]
 exact Le.rfl
end impl_reachOf
namespace impl_eveningHeight
noncomputable def p (K : Nat) (a0 a1 a2 a3 : Int) : Option Int := PI Cx K 87 [.sv (.agg [.int .i64 a0, .int .i64 a1]), .sv (.one (.int .i64 a2)), .sv (.one (.int .i64 a3))]
noncomputable def b (g0 : Int → Int → Int → Option Int) (a0 a1 a2 a3 : Int) : Option Int :=
 (g0 a0 a1 a3).bind fun t0 =>
 some (mn a2 t0)
noncomputable def f (a0 a1 a2 a3 : Int) : Option Int := b impl_reachOf.f a0 a1 a2 a3
theorem e (K : Nat) (a0 a1 a2 a3 : Int) : p (K + 1) a0 a1 a2 a3 = b (impl_reachOf.p K) a0 a1 a2 a3 := PI_at Cx (by kernel_rfl)
theorem k {K : Nat} (h : 2 ≤ K) (a0 a1 a2 a3 : Int) : Le (f a0 a1 a2 a3) (p K a0 a1 a2 a3) := by
 obtain ⟨K, rfl⟩ := pos_of_le (show 0 + 1 ≤ K by omega)
 rw [e]
 unfold f b
 repeat' first | with_reducible apply Le.bind | with_reducible apply Le.ite | with_reducible exact Le.rfl | with_reducible refine impl_reachOf.k ?_ _ _ _ | with_reducible intro _ | omega
end impl_eveningHeight
namespace impl_toldBy
noncomputable def p (K : Nat) (a0 a1 a2 a3 a4 : Int) : Option Int := PI Cx K 71 [.sv (.agg [.int .i64 a0, .int .i64 a1, .int .i64 a2]), .sv (.agg [.int .i64 a3, .int .i64 a4])]
noncomputable def b (g0 : Int → Int → Int → Option Int) (g1 : Int → Int → Int → Int → Option Int) (a0 a1 a2 a3 a4 : Int) : Option Int :=
 if (a0 == 0) = true then ((g0 a3 a4 a1).bind fun t0 =>
 some t0) else (if (a0 == 1) = true then ((g1 a3 a4 100 a1).bind fun t0 =>
 some t0) else (if (a0 == 2) = true then (some (W (a3 + a4))) else (if (a0 == 3) = true then (if a1 = 0 then (none) else (if ((Int.tmod a3 a1) == 0) = true then (some 1) else (some 0))) else (some (W (a3 - a4))))))
noncomputable def f (a0 a1 a2 a3 a4 : Int) : Option Int := b impl_dayOfHeight.f impl_eveningHeight.f a0 a1 a2 a3 a4
theorem e (K : Nat) (a0 a1 a2 a3 a4 : Int) : p (K + 1) a0 a1 a2 a3 a4 = b (impl_dayOfHeight.p K) (impl_eveningHeight.p K) a0 a1 a2 a3 a4 := PI_at Cx (by kernel_rfl)
theorem k {K : Nat} (h : 3 ≤ K) (a0 a1 a2 a3 a4 : Int) : Le (f a0 a1 a2 a3 a4) (p K a0 a1 a2 a3 a4) := by
 obtain ⟨K, rfl⟩ := pos_of_le (show 0 + 1 ≤ K by omega)
 rw [e]
 unfold f b
 repeat' first | with_reducible apply Le.bind | with_reducible apply Le.ite | with_reducible exact Le.rfl | with_reducible refine impl_dayOfHeight.k ?_ _ _ _ | with_reducible refine impl_eveningHeight.k ?_ _ _ _ _ | with_reducible intro _ | omega
end impl_toldBy
namespace impl_doesFit
noncomputable def p (K : Nat) (a0 a1 a2 a3 a4 : Int) : Option Bool := PI Cx K 51 [.sv (.agg [.int .i64 a0, .int .i64 a1, .int .i64 a2]), .sv (.agg [.int .i64 a3, .int .i64 a4])]
noncomputable def b (g0 : Int → Int → Int → Int → Int → Option Int) (a0 a1 a2 a3 a4 : Int) : Option Bool :=
 (g0 a0 a1 a2 a3 a4).bind fun t0 =>
 some (t0 == a2)
noncomputable def f (a0 a1 a2 a3 a4 : Int) : Option Bool := b impl_toldBy.f a0 a1 a2 a3 a4
theorem e (K : Nat) (a0 a1 a2 a3 a4 : Int) : p (K + 1) a0 a1 a2 a3 a4 = b (impl_toldBy.p K) a0 a1 a2 a3 a4 := PI_at Cx (by kernel_rfl)
theorem k {K : Nat} (h : 4 ≤ K) (a0 a1 a2 a3 a4 : Int) : Le (f a0 a1 a2 a3 a4) (p K a0 a1 a2 a3 a4) := by
 obtain ⟨K, rfl⟩ := pos_of_le (show 0 + 1 ≤ K by omega)
 rw [e]
 unfold f b
 repeat' first | with_reducible apply Le.bind | with_reducible apply Le.ite | with_reducible exact Le.rfl | with_reducible refine impl_toldBy.k ?_ _ _ _ _ _ | with_reducible intro _ | omega
end impl_doesFit
namespace impl_solutions_1
noncomputable def p (K : Nat) (a0 a1 a2 a3 a4 : Int) : Option Bool := PI Cx K 59 [.sv (.agg [.int .i64 a0, .int .i64 a1, .int .i64 a2]), .sv (.one (.rptr [.int .i64 a3, .int .i64 a4] 0))]
noncomputable def b (g0 : Int → Int → Int → Int → Int → Option Bool) (a0 a1 a2 a3 a4 : Int) : Option Bool :=
 (g0 a0 a1 a2 a3 a4).bind fun t0 =>
 some (!t0)
noncomputable def f (a0 a1 a2 a3 a4 : Int) : Option Bool := b impl_doesFit.f a0 a1 a2 a3 a4
theorem e (K : Nat) (a0 a1 a2 a3 a4 : Int) : p (K + 1) a0 a1 a2 a3 a4 = b (impl_doesFit.p K) a0 a1 a2 a3 a4 := PI_at Cx (by kernel_rfl)
theorem k {K : Nat} (h : 5 ≤ K) (a0 a1 a2 a3 a4 : Int) : Le (f a0 a1 a2 a3 a4) (p K a0 a1 a2 a3 a4) := by
 obtain ⟨K, rfl⟩ := pos_of_le (show 0 + 1 ≤ K by omega)
 rw [e]
 unfold f b
 repeat' first | with_reducible apply Le.bind | with_reducible apply Le.ite | with_reducible exact Le.rfl | with_reducible refine impl_doesFit.k ?_ _ _ _ _ _ | with_reducible intro _ | omega
end impl_solutions_1
namespace slices_IndexFunc_impl_Clue_impl_Clue_impl_solutions_1
noncomputable def p (K : Nat) (a0 : List (Int × (Int × Int))) (a1 a2 : Int) : Option Int := PI Cx K 70 [.sv (.one (.sl 48 (.pair (.int .i64) (.pair (.int .i64) (.int .i64))) a0)), .sv (.one (.fn 59 [.rptr [.int .i64 a1, .int .i64 a2] 0]))]
noncomputable def q0 (K m : Nat) (x0 : List (Int × (Int × Int))) (x1 x2 x3 x4 : Int) : Option Int := runAt Cx K 70 [true, false, true, true] [m] ⟨[(0, .sv (.one (.sl 48 (.pair (.int .i64) (.pair (.int .i64) (.int .i64))) x0))), (1, .sv (.one (.fn 59 [.rptr [.int .i64 x1, .int .i64 x2] 0]))), (7, .sv (.one (.int .i64 x3))), (8, .sv (.one (.int .i64 x4)))], [], []⟩
noncomputable def b (L0 : List (Int × (Int × Int)) → Int → Int → Int → Int → Option Int) (a0 : List (Int × (Int × Int))) (a1 a2 : Int) : Option Int :=
 L0 a0 a1 a2 (dlen a0) 0
noncomputable def b0 (L0 : List (Int × (Int × Int)) → Int → Int → Int → Int → Option Int) (g0 : Int → Int → Int → Int → Int → Option Bool) (x0 : List (Int × (Int × Int))) (x1 x2 x3 x4 : Int) : Option Int :=
 if (decide (x4 < x3)) = true then (if 0 ≤ x4 then (if x4 < (dlen x0) then ((g0 (rd (0, (0, 0)) x0 x4).1 (rd (0, (0, 0)) x0 x4).2.1 (rd (0, (0, 0)) x0 x4).2.2 x1 x2).bind fun t0 =>
 if t0 = true then (some x4) else (L0 x0 x1 x2 x3 (W (x4 + 1)))) else (none)) else (none)) else (some (-1))
noncomputable def l0 : Nat → List (Int × (Int × Int)) → Int → Int → Int → Int → Option Int
 | 0, _, _, _, _, _ => none
 | k + 1, x0, x1, x2, x3, x4 => b0 (l0 k) impl_solutions_1.f x0 x1 x2 x3 x4
noncomputable def f (k : Nat) (a0 : List (Int × (Int × Int))) (a1 a2 : Int) : Option Int := b (l0 k) a0 a1 a2
theorem e (K : Nat) (a0 : List (Int × (Int × Int))) (a1 a2 : Int) : p (K + 1) a0 a1 a2 = b (q0 K K) a0 a1 a2 := PI_at Cx (by kernel_rfl)
theorem e0 (K m : Nat) (x0 : List (Int × (Int × Int))) (x1 x2 x3 x4 : Int) : q0 K (m + 1) x0 x1 x2 x3 x4 = b0 (q0 K m) (impl_solutions_1.p K) x0 x1 x2 x3 x4 := by kernel_rfl
theorem kl (n : Nat) : ∀ K, n + 5 ≤ K → (∀ m, n ≤ m → ∀ (x0 : List (Int × (Int × Int))) (x1 x2 x3 x4 : Int), Le (l0 n x0 x1 x2 x3 x4) (q0 K m x0 x1 x2 x3 x4)) := by
 induction n with
 | zero => exact fun K _ => fun _ _ _ _ _ _ _ => Le.none
 | succ n ih =>
  intro K hK
  have ih := ih K (by omega)
  intro m hm x0 x1 x2 x3 x4
  obtain ⟨m, rfl⟩ := pos_of_le hm
  rw [e0]
  show Le (b0 (l0 n) impl_solutions_1.f x0 x1 x2 x3 x4) _
  unfold b0
  repeat' first | with_reducible apply Le.bind | with_reducible apply Le.ite | with_reducible exact Le.rfl | with_reducible refine ih _ ?_ _ _ _ _ _ | with_reducible refine impl_solutions_1.k ?_ _ _ _ _ _ | with_reducible intro _ | omega
theorem k {n K : Nat} (h : n + 6 ≤ K) (a0 : List (Int × (Int × Int))) (a1 a2 : Int) : Le (f n a0 a1 a2) (p K a0 a1 a2) := by
 obtain ⟨K, rfl⟩ := pos_of_le (show 0 + 1 ≤ K by omega)
 have kl := kl n K (by omega)
 rw [e]
 unfold f b
 repeat' first | with_reducible apply Le.bind | with_reducible apply Le.ite | with_reducible exact Le.rfl | with_reducible refine kl _ ?_ _ _ _ _ _ | with_reducible intro _ | omega
end slices_IndexFunc_impl_Clue_impl_Clue_impl_solutions_1
namespace slices_ContainsFunc_impl_Clue_impl_Clue_impl_solutions_1
noncomputable def p (K : Nat) (a0 : List (Int × (Int × Int))) (a1 a2 : Int) : Option Bool := PI Cx K 46 [.sv (.one (.sl 48 (.pair (.int .i64) (.pair (.int .i64) (.int .i64))) a0)), .sv (.one (.fn 59 [.rptr [.int .i64 a1, .int .i64 a2] 0]))]
noncomputable def b (g0 : List (Int × (Int × Int)) → Int → Int → Option Int) (a0 : List (Int × (Int × Int))) (a1 a2 : Int) : Option Bool :=
 (g0 a0 a1 a2).bind fun t0 =>
 some (decide (t0 ≥ 0))
noncomputable def f (k : Nat) (a0 : List (Int × (Int × Int))) (a1 a2 : Int) : Option Bool := b (slices_IndexFunc_impl_Clue_impl_Clue_impl_solutions_1.f k) a0 a1 a2
theorem e (K : Nat) (a0 : List (Int × (Int × Int))) (a1 a2 : Int) : p (K + 1) a0 a1 a2 = b (slices_IndexFunc_impl_Clue_impl_Clue_impl_solutions_1.p K) a0 a1 a2 := PI_at Cx (by kernel_rfl)
theorem k {n K : Nat} (h : n + 7 ≤ K) (a0 : List (Int × (Int × Int))) (a1 a2 : Int) : Le (f n a0 a1 a2) (p K a0 a1 a2) := by
 obtain ⟨K, rfl⟩ := pos_of_le (show 0 + 1 ≤ K by omega)
 rw [e]
 unfold f b
 repeat' first | with_reducible apply Le.bind | with_reducible apply Le.ite | with_reducible exact Le.rfl | with_reducible refine slices_IndexFunc_impl_Clue_impl_Clue_impl_solutions_1.k ?_ _ _ _ | with_reducible intro _ | omega
end slices_ContainsFunc_impl_Clue_impl_Clue_impl_solutions_1
namespace impl_solutions
noncomputable def p (K : Nat) (a0 : List (Int × (Int × Int))) : Option (List (Int × Int)) := PI Cx K 37 [.sv (.one (.sl 48 (.pair (.int .i64) (.pair (.int .i64) (.int .i64))) a0))]
noncomputable def q0 (K m : Nat) (x0 : List (Int × (Int × Int))) (x1 : Int) (x2 : List (Int × Int)) : Option (List (Int × Int)) := runAt Cx K 37 [true, true, false, true, true] [m] ⟨[(0, .sv (.one (.sl 48 (.pair (.int .i64) (.pair (.int .i64) (.int .i64))) x0))), (3, .sv (.one (.full 1000000003000))), (4, .sv (.one (.int .i64 x1)))], [(1000000003000, .row 31 (.pair (.int .i64) (.int .i64)) x2 .own)], []⟩
noncomputable def q1 (K m0 m : Nat) (x0 : List (Int × (Int × Int))) (x1 x2 : Int) (x3 : List (Int × Int)) : Option (List (Int × Int)) := runAt Cx K 37 [true, true, false, true, true, true, true, false, true, true, true] [m0, m] ⟨[(0, .sv (.one (.sl 48 (.pair (.int .i64) (.pair (.int .i64) (.int .i64))) x0))), (3, .sv (.one (.full 1000000003000))), (4, .sv (.one (.int .i64 x1))), (11, .sv (.one (.int .i64 x2)))], [(1000000003000, .row 31 (.pair (.int .i64) (.int .i64)) x3 .own)], []⟩
noncomputable def b (L0 : List (Int × (Int × Int)) → Int → List (Int × Int) → Option (List (Int × Int))) (a0 : List (Int × (Int × Int))) : Option (List (Int × Int)) :=
 L0 a0 1 ([] : List (Int × Int))
noncomputable def b0 (L1 : List (Int × (Int × Int)) → Int → Int → List (Int × Int) → Option (List (Int × Int))) (x0 : List (Int × (Int × Int))) (x1 : Int) (x2 : List (Int × Int)) : Option (List (Int × Int)) :=
 if (decide (x1 ≤ 12)) = true then (L1 x0 x1 0 x2) else (some x2)
noncomputable def b1 (L1 : List (Int × (Int × Int)) → Int → Int → List (Int × Int) → Option (List (Int × Int))) (L0 : List (Int × (Int × Int)) → Int → List (Int × Int) → Option (List (Int × Int))) (g0 : List (Int × (Int × Int)) → Int → Int → Option Bool) (x0 : List (Int × (Int × Int))) (x1 x2 : Int) (x3 : List (Int × Int)) : Option (List (Int × Int)) :=
 if (decide (x2 < 13)) = true then ((g0 x0 x1 x2).bind fun t0 =>
 if (!t0) = true then (if ((dlenN x3) + 1) ≤ 8796093022208 then (L1 x0 x1 (W (x2 + 1)) (x3 ++ [(x1, x2)])) else (none)) else (L1 x0 x1 (W (x2 + 1)) x3)) else (L0 x0 (W (x1 + 1)) x3)
mutual
noncomputable def l0 : Nat → List (Int × (Int × Int)) → Int → List (Int × Int) → Option (List (Int × Int))
 | 0, _, _, _ => none
 | k + 1, x0, x1, x2 => b0 (l1 k) x0 x1 x2
noncomputable def l1 : Nat → List (Int × (Int × Int)) → Int → Int → List (Int × Int) → Option (List (Int × Int))
 | 0, _, _, _, _ => none
 | k + 1, x0, x1, x2, x3 => b1 (l1 k) (l0 k) (slices_ContainsFunc_impl_Clue_impl_Clue_impl_solutions_1.f k) x0 x1 x2 x3
end
noncomputable def f (k : Nat) (a0 : List (Int × (Int × Int))) : Option (List (Int × Int)) := b (l0 k) a0
theorem e (K : Nat) (a0 : List (Int × (Int × Int))) : p (K + 1) a0 = b (q0 K K) a0 := PI_at Cx (by kernel_rfl)
theorem e0 (K m : Nat) (x0 : List (Int × (Int × Int))) (x1 : Int) (x2 : List (Int × Int)) : q0 K (m + 1) x0 x1 x2 = b0 (q1 K m K) x0 x1 x2 := by kernel_rfl
theorem e1 (K m0 m : Nat) (x0 : List (Int × (Int × Int))) (x1 x2 : Int) (x3 : List (Int × Int)) : q1 K m0 (m + 1) x0 x1 x2 x3 = b1 (q1 K m0 m) (q0 K m0) (slices_ContainsFunc_impl_Clue_impl_Clue_impl_solutions_1.p K) x0 x1 x2 x3 := by kernel_rfl
theorem kl (n : Nat) : ∀ K, n + 7 ≤ K → (∀ m, n ≤ m → ∀ (x0 : List (Int × (Int × Int))) (x1 : Int) (x2 : List (Int × Int)), Le (l0 n x0 x1 x2) (q0 K m x0 x1 x2)) ∧ (∀ m0, n ≤ m0 → ∀ m, n ≤ m → ∀ (x0 : List (Int × (Int × Int))) (x1 x2 : Int) (x3 : List (Int × Int)), Le (l1 n x0 x1 x2 x3) (q1 K m0 m x0 x1 x2 x3)) := by
 induction n with
 | zero => exact fun K _ => ⟨fun _ _ _ _ _ => Le.none, fun _ _ _ _ _ _ _ _ => Le.none⟩
 | succ n ih =>
  intro K hK
  have ih := ih K (by omega)
  refine ⟨?_, ?_⟩
  · intro m hm x0 x1 x2
    obtain ⟨m, rfl⟩ := pos_of_le hm
    rw [e0]
    show Le (b0 (l1 n) x0 x1 x2) _
    unfold b0
    repeat' first | with_reducible apply Le.bind | with_reducible apply Le.ite | with_reducible exact Le.rfl | with_reducible refine ih.1 _ ?_ _ _ _ | with_reducible refine ih.2 _ ?_ _ ?_ _ _ _ _ | with_reducible intro _ | omega
  · intro m0 h0 m hm x0 x1 x2 x3
    obtain ⟨m, rfl⟩ := pos_of_le hm
    rw [e1]
    show Le (b1 (l1 n) (l0 n) (slices_ContainsFunc_impl_Clue_impl_Clue_impl_solutions_1.f n) x0 x1 x2 x3) _
    unfold b1
    repeat' first | with_reducible apply Le.bind | with_reducible apply Le.ite | with_reducible exact Le.rfl | with_reducible refine ih.1 _ ?_ _ _ _ | with_reducible refine ih.2 _ ?_ _ ?_ _ _ _ _ | with_reducible refine slices_ContainsFunc_impl_Clue_impl_Clue_impl_solutions_1.k ?_ _ _ _ | with_reducible intro _ | omega
theorem k {n K : Nat} (h : n + 8 ≤ K) (a0 : List (Int × (Int × Int))) : Le (f n a0) (p K a0) := by
 obtain ⟨K, rfl⟩ := pos_of_le (show 0 + 1 ≤ K by omega)
 have kl := kl n K (by omega)
 rw [e]
 unfold f b
 repeat' first | with_reducible apply Le.bind | with_reducible apply Le.ite | with_reducible exact Le.rfl | with_reducible refine kl.1 _ ?_ _ _ _ | with_reducible refine kl.2 _ ?_ _ ?_ _ _ _ _ | with_reducible intro _ | omega
end impl_solutions
namespace impl_Solutions
noncomputable def p (K : Nat) (a0 : List (Int × (Int × Int))) : Option ((List (Int × Int)) × Bool) := PI Cx K 5 [.sv (.agg [.sl 48 (.pair (.int .i64) (.pair (.int .i64) (.int .i64))) a0])]
noncomputable def b (g0 : List (Int × (Int × Int)) → Option Bool) (g1 : List (Int × (Int × Int)) → Option (List (Int × Int))) (a0 : List (Int × (Int × Int))) : Option ((List (Int × Int)) × Bool) :=
 (g0 a0).bind fun t0 =>
 if (!t0) = true then (some (([] : List (Int × Int)), false)) else ((g1 a0).bind fun t1 =>
 some (t1, true))
noncomputable def f (k : Nat) (a0 : List (Int × (Int × Int))) : Option ((List (Int × Int)) × Bool) := b (impl_IsPuzzle.f k) (impl_solutions.f k) a0
theorem e (K : Nat) (a0 : List (Int × (Int × Int))) : p (K + 1) a0 = b (impl_IsPuzzle.p K) (impl_solutions.p K) a0 := PI_at Cx (by kernel_rfl)
theorem k {n K : Nat} (h : n + 9 ≤ K) (a0 : List (Int × (Int × Int))) : Le (f n a0) (p K a0) := by
 obtain ⟨K, rfl⟩ := pos_of_le (show 0 + 1 ≤ K by omega)
 rw [e]
 unfold f b
 repeat' first | with_reducible apply Le.bind | with_reducible apply Le.ite | with_reducible exact Le.rfl | with_reducible refine impl_IsPuzzle.k ?_ _ | with_reducible refine impl_solutions.k ?_ _ | with_reducible intro _ | omega
end impl_Solutions
namespace spec_l1In
noncomputable def p (K : Nat) (a0 a1 a2 : Int) : Option Bool := PI Cx K 80 [.sv (.one (.int .i64 a0)), .sv (.one (.int .i64 a1)), .sv (.one (.int .i64 a2))]
noncomputable def f (a0 a1 a2 : Int) : Option Bool :=
 if (decide (a0 ≥ a1)) = true then (some (decide (a0 ≤ a2))) else (some false)
theorem e (K : Nat) (a0 a1 a2 : Int) : p (K + 1) a0 a1 a2 = f a0 a1 a2 := PI_at Cx (by kernel_rfl)
theorem k {K : Nat} (h : 1 ≤ K) (a0 a1 a2 : Int) : Le (f a0 a1 a2) (p K a0 a1 a2) := by
 obtain ⟨K, rfl⟩ := pos_of_le h
 rw [e]
 exact Le.rfl
end spec_l1In
namespace spec_pzClue
noncomputable def p (K : Nat) (a0 a1 a2 : Int) : Option Bool := PI Cx K 60 [.sv (.agg [.int .i64 a0, .int .i64 a1, .int .i64 a2])]
noncomputable def b (g0 : Int → Int → Int → Option Bool) (a0 a1 a2 : Int) : Option Bool :=
 if (a0 == 0) = true then ((g0 a1 1 100).bind fun t0 =>
 if t0 = true then ((g0 a2 0 100).bind fun t1 =>
 some t1) else (some false)) else (if (a0 == 1) = true then ((g0 a1 1 100).bind fun t0 =>
 if t0 = true then ((g0 a2 1 100).bind fun t1 =>
 some t1) else (some false)) else (if (a0 == 2) = true then (if (a1 == 0) = true then ((g0 a2 0 24).bind fun t0 =>
 some t0) else (some false)) else (if (a0 == 3) = true then ((g0 a1 2 9).bind fun t0 =>
 if t0 = true then ((g0 a2 0 1).bind fun t1 =>
 some t1) else (some false)) else (if (a0 == 4) = true then (if (a1 == 0) = true then ((g0 a2 (-12) 12).bind fun t0 =>
 some t0) else (some false)) else (some false)))))
noncomputable def f (a0 a1 a2 : Int) : Option Bool := b spec_l1In.f a0 a1 a2
theorem e (K : Nat) (a0 a1 a2 : Int) : p (K + 1) a0 a1 a2 = b (spec_l1In.p K) a0 a1 a2 := PI_at Cx (by kernel_rfl)
theorem k {K : Nat} (h : 2 ≤ K) (a0 a1 a2 : Int) : Le (f a0 a1 a2) (p K a0 a1 a2) := by
 obtain ⟨K, rfl⟩ := pos_of_le (show 0 + 1 ≤ K by omega)
 rw [e]
 unfold f b
 repeat' first | with_reducible apply Le.bind | with_reducible apply Le.ite | with_reducible exact Le.rfl | with_reducible refine spec_l1In.k ?_ _ _ _ | with_reducible intro _ | omega
end spec_pzClue
namespace spec_pzGood
noncomputable def p (K : Nat) (a0 : List (Int × (Int × Int))) : Option Bool := PI Cx K 38 [.sv (.agg [.sl 48 (.pair (.int .i64) (.pair (.int .i64) (.int .i64))) a0])]
noncomputable def q0 (K m : Nat) (x0 : List (Int × (Int × Int))) (x1 x2 : Int) : Option Bool := runAt Cx K 38 [true, true, false, true, true] [m] ⟨[(10, .sv (.one (.sl 48 (.pair (.int .i64) (.pair (.int .i64) (.int .i64))) x0))), (11, .sv (.one (.int .i64 x1))), (12, .sv (.one (.int .i64 x2)))], [], []⟩
noncomputable def b (L0 : List (Int × (Int × Int)) → Int → Int → Option Bool) (a0 : List (Int × (Int × Int))) : Option Bool :=
 if (decide ((dlen a0) > 6)) = true then (some false) else (L0 a0 (dlen a0) 0)
noncomputable def b0 (L0 : List (Int × (Int × Int)) → Int → Int → Option Bool) (g0 : Int → Int → Int → Option Bool) (x0 : List (Int × (Int × Int))) (x1 x2 : Int) : Option Bool :=
 if (decide (x2 < x1)) = true then (if 0 ≤ x2 then (if x2 < (dlen x0) then ((g0 (rd (0, (0, 0)) x0 x2).1 (rd (0, (0, 0)) x0 x2).2.1 (rd (0, (0, 0)) x0 x2).2.2).bind fun t0 =>
 if (!t0) = true then (some false) else (L0 x0 x1 (W (x2 + 1)))) else (none)) else (none)) else (some true)
noncomputable def l0 : Nat → List (Int × (Int × Int)) → Int → Int → Option Bool
 | 0, _, _, _ => none
 | k + 1, x0, x1, x2 => b0 (l0 k) spec_pzClue.f x0 x1 x2
noncomputable def f (k : Nat) (a0 : List (Int × (Int × Int))) : Option Bool := b (l0 k) a0
theorem e (K : Nat) (a0 : List (Int × (Int × Int))) : p (K + 1) a0 = b (q0 K K) a0 := PI_at Cx (by kernel_rfl)
theorem e0 (K m : Nat) (x0 : List (Int × (Int × Int))) (x1 x2 : Int) : q0 K (m + 1) x0 x1 x2 = b0 (q0 K m) (spec_pzClue.p K) x0 x1 x2 := by kernel_rfl
theorem kl (n : Nat) : ∀ K, n + 2 ≤ K → (∀ m, n ≤ m → ∀ (x0 : List (Int × (Int × Int))) (x1 x2 : Int), Le (l0 n x0 x1 x2) (q0 K m x0 x1 x2)) := by
 induction n with
 | zero => exact fun K _ => fun _ _ _ _ _ => Le.none
 | succ n ih =>
  intro K hK
  have ih := ih K (by omega)
  intro m hm x0 x1 x2
  obtain ⟨m, rfl⟩ := pos_of_le hm
  rw [e0]
  show Le (b0 (l0 n) spec_pzClue.f x0 x1 x2) _
  unfold b0
  repeat' first | with_reducible apply Le.bind | with_reducible apply Le.ite | with_reducible exact Le.rfl | with_reducible refine ih _ ?_ _ _ _ | with_reducible refine spec_pzClue.k ?_ _ _ _ | with_reducible intro _ | omega
theorem k {n K : Nat} (h : n + 3 ≤ K) (a0 : List (Int × (Int × Int))) : Le (f n a0) (p K a0) := by
 obtain ⟨K, rfl⟩ := pos_of_le (show 0 + 1 ≤ K by omega)
 have kl := kl n K (by omega)
 rw [e]
 unfold f b
 repeat' first | with_reducible apply Le.bind | with_reducible apply Le.ite | with_reducible exact Le.rfl | with_reducible refine kl _ ?_ _ _ _ | with_reducible intro _ | omega
end spec_pzGood
namespace spec_snCan
noncomputable def p (K : Nat) (a0 a1 a2 : Int) : Option Bool := PI Cx K 97 [.sv (.agg [.int .i64 a0, .int .i64 a1]), .sv (.one (.int .i64 a2))]
noncomputable def f (a0 a1 a2 : Int) : Option Bool :=
 if (decide (a0 ≥ a2)) = true then (some true) else (some (decide (a0 > a1)))
theorem e (K : Nat) (a0 a1 a2 : Int) : p (K + 1) a0 a1 a2 = f a0 a1 a2 := PI_at Cx (by kernel_rfl)
theorem k {K : Nat} (h : 1 ≤ K) (a0 a1 a2 : Int) : Le (f a0 a1 a2) (p K a0 a1 a2) := by
 obtain ⟨K, rfl⟩ := pos_of_le h
 rw [e]
 exact Le.rfl
end spec_snCan
namespace spec_snDays
noncomputable def p (K : Nat) (a0 a1 a2 : Int) : Option Int := PI Cx K 98 [.sv (.agg [.int .i64 a0, .int .i64 a1]), .sv (.one (.int .i64 a2))]
noncomputable def f (a0 a1 a2 : Int) : Option Int :=
 if (decide (a0 ≥ a2)) = true then (some 1) else (if (W (a0 - a1)) = 0 then (none) else (some (W (1 + (W (Int.tdiv (W ((W ((W (a2 - a0)) + (W (a0 - a1)))) - 1)) (W (a0 - a1))))))))
theorem e (K : Nat) (a0 a1 a2 : Int) : p (K + 1) a0 a1 a2 = f a0 a1 a2 := PI_at Cx (by kernel_rfl)
theorem k {K : Nat} (h : 1 ≤ K) (a0 a1 a2 : Int) : Le (f a0 a1 a2) (p K a0 a1 a2) := by
 obtain ⟨K, rfl⟩ := pos_of_le h
 rw [e]
 exact Le.rfl
end spec_snDays
namespace spec_snEvening
noncomputable def p (K : Nat) (a0 a1 a2 : Int) : Option Int := PI Cx K 100 [.sv (.agg [.int .i64 a0, .int .i64 a1]), .sv (.one (.int .i64 a2))]
noncomputable def f (a0 a1 a2 : Int) : Option Int :=
 if (decide (a1 ≥ a0)) = true then (some a0) else (some (W (a0 + (W ((W (a2 - 1)) * (W (a0 - a1)))))))
theorem e (K : Nat) (a0 a1 a2 : Int) : p (K + 1) a0 a1 a2 = f a0 a1 a2 := PI_at Cx (by kernel_rfl)
theorem k {K : Nat} (h : 1 ≤ K) (a0 a1 a2 : Int) : Le (f a0 a1 a2) (p K a0 a1 a2) := by
 obtain ⟨K, rfl⟩ := pos_of_le h
 rw [e]
 exact Le.rfl
end spec_snEvening
namespace spec_l1Least
noncomputable def p (K : Nat) (a0 a1 : Int) : Option Int := PI Cx K 99 [.sv (.one (.int .i64 a0)), .sv (.one (.int .i64 a1))]
noncomputable def f (a0 a1 : Int) : Option Int :=
 if (decide (a0 < a1)) = true then (some a0) else (some a1)
theorem e (K : Nat) (a0 a1 : Int) : p (K + 1) a0 a1 = f a0 a1 := PI_at Cx (by kernel_rfl)
theorem k {K : Nat} (h : 1 ≤ K) (a0 a1 : Int) : Le (f a0 a1) (p K a0 a1) := by
 obtain ⟨K, rfl⟩ := pos_of_le h
 rw [e]
 exact Le.rfl
end spec_l1Least
namespace spec_pzValue
noncomputable def p (K : Nat) (a0 a1 a2 a3 : Int) : Option Int := PI Cx K 81 [.sv (.one (.int .i64 a0)), .sv (.one (.int .i64 a1)), .sv (.agg [.int .i64 a2, .int .i64 a3])]
noncomputable def b (g0 : Int → Int → Int → Option Bool) (g1 : Int → Int → Int → Option Int) (g2 : Int → Int → Int → Option Int) (g3 : Int → Int → Option Int) (a0 a1 a2 a3 : Int) : Option Int :=
 if (a0 == 0) = true then ((g0 a2 a3 a1).bind fun t0 =>
 if (!t0) = true then (some 0) else ((g1 a2 a3 a1).bind fun t1 =>
 some t1)) else (if (a0 == 1) = true then ((g2 a2 a3 a1).bind fun t0 =>
 (g3 100 t0).bind fun t1 =>
 some t1) else (if (a0 == 2) = true then (some (W (a2 + a3))) else (if (a0 == 3) = true then (if a1 = 0 then (none) else (if ((Int.tmod a2 a1) == 0) = true then (some 1) else (some 0))) else (some (W (a2 - a3))))))
noncomputable def f (a0 a1 a2 a3 : Int) : Option Int := b spec_snCan.f spec_snDays.f spec_snEvening.f spec_l1Least.f a0 a1 a2 a3
theorem e (K : Nat) (a0 a1 a2 a3 : Int) : p (K + 1) a0 a1 a2 a3 = b (spec_snCan.p K) (spec_snDays.p K) (spec_snEvening.p K) (spec_l1Least.p K) a0 a1 a2 a3 := PI_at Cx (by kernel_rfl)
theorem k {K : Nat} (h : 2 ≤ K) (a0 a1 a2 a3 : Int) : Le (f a0 a1 a2 a3) (p K a0 a1 a2 a3) := by
 obtain ⟨K, rfl⟩ := pos_of_le (show 0 + 1 ≤ K by omega)
 rw [e]
 unfold f b
 repeat' first | with_reducible apply Le.bind | with_reducible apply Le.ite | with_reducible exact Le.rfl | with_reducible refine spec_snCan.k ?_ _ _ _ | with_reducible refine spec_snDays.k ?_ _ _ _ | with_reducible refine spec_snEvening.k ?_ _ _ _ | with_reducible refine spec_l1Least.k ?_ _ _ | with_reducible intro _ | omega
end spec_pzValue
namespace spec_pzFits
noncomputable def p (K : Nat) (a0 a1 a2 a3 a4 : Int) : Option Bool := PI Cx K 61 [.sv (.agg [.int .i64 a0, .int .i64 a1, .int .i64 a2]), .sv (.agg [.int .i64 a3, .int .i64 a4])]
noncomputable def b (g0 : Int → Int → Int → Int → Option Int) (a0 a1 a2 a3 a4 : Int) : Option Bool :=
 (g0 a0 a1 a3 a4).bind fun t0 =>
 some (t0 == a2)
noncomputable def f (a0 a1 a2 a3 a4 : Int) : Option Bool := b spec_pzValue.f a0 a1 a2 a3 a4
theorem e (K : Nat) (a0 a1 a2 a3 a4 : Int) : p (K + 1) a0 a1 a2 a3 a4 = b (spec_pzValue.p K) a0 a1 a2 a3 a4 := PI_at Cx (by kernel_rfl)
theorem k {K : Nat} (h : 3 ≤ K) (a0 a1 a2 a3 a4 : Int) : Le (f a0 a1 a2 a3 a4) (p K a0 a1 a2 a3 a4) := by
 obtain ⟨K, rfl⟩ := pos_of_le (show 0 + 1 ≤ K by omega)
 rw [e]
 unfold f b
 repeat' first | with_reducible apply Le.bind | with_reducible apply Le.ite | with_reducible exact Le.rfl | with_reducible refine spec_pzValue.k ?_ _ _ _ _ | with_reducible intro _ | omega
end spec_pzFits
namespace spec_pzAll
noncomputable def p (K : Nat) (a0 : List (Int × (Int × Int))) : Option (List (Int × Int)) := PI Cx K 39 [.sv (.one (.sl 48 (.pair (.int .i64) (.pair (.int .i64) (.int .i64))) a0))]
noncomputable def q0 (K m : Nat) (x0 : List (Int × (Int × Int))) (x1 : Int) (x2 : List (Int × Int)) : Option (List (Int × Int)) := runAt Cx K 39 [true, true, false, true, true] [m] ⟨[(0, .sv (.one (.sl 48 (.pair (.int .i64) (.pair (.int .i64) (.int .i64))) x0))), (3, .sv (.one (.full 1000000003000))), (4, .sv (.one (.int .i64 x1)))], [(1000000003000, .row 31 (.pair (.int .i64) (.int .i64)) x2 .own)], []⟩
noncomputable def q1 (K m0 m : Nat) (x0 : List (Int × (Int × Int))) (x1 x2 : Int) (x3 : List (Int × Int)) : Option (List (Int × Int)) := runAt Cx K 39 [true, true, false, true, true, true, true, false, true, true, true] [m0, m] ⟨[(0, .sv (.one (.sl 48 (.pair (.int .i64) (.pair (.int .i64) (.int .i64))) x0))), (3, .sv (.one (.full 1000000003000))), (4, .sv (.one (.int .i64 x1))), (5, .sv (.one (.int .i64 x2)))], [(1000000003000, .row 31 (.pair (.int .i64) (.int .i64)) x3 .own)], []⟩
noncomputable def q2 (K m0 m1 m : Nat) (x0 : List (Int × (Int × Int))) (x1 x2 : Int) (x3 : Bool) (x4 : List (Int × (Int × Int))) (x5 x6 : Int) (x7 : List (Int × Int)) (x8 x9 : Int) : Option (List (Int × Int)) := runAt Cx K 39 [true, true, false, true, true, true, true, false, true, true, true, true, true, false, true, true, true, false, true, true] [m0, m1, m] ⟨[(0, .sv (.one (.sl 48 (.pair (.int .i64) (.pair (.int .i64) (.int .i64))) x0))), (3, .sv (.one (.full 1000000003000))), (4, .sv (.one (.int .i64 x1))), (5, .sv (.one (.int .i64 x2))), (6, .sv (.one (.ptr 8003000 0))), (7, .sv (.one (.bool x3))), (21, .sv (.one (.sl 48 (.pair (.int .i64) (.pair (.int .i64) (.int .i64))) x4))), (22, .sv (.one (.int .i64 x5))), (23, .sv (.one (.int .i64 x6)))], [(1000000003000, .row 31 (.pair (.int .i64) (.int .i64)) x7 .own), (8003000, .box 31 [.int .i64 x8, .int .i64 x9])], []⟩
noncomputable def b (L0 : List (Int × (Int × Int)) → Int → List (Int × Int) → Option (List (Int × Int))) (a0 : List (Int × (Int × Int))) : Option (List (Int × Int)) :=
 L0 a0 1 ([] : List (Int × Int))
noncomputable def b0 (L1 : List (Int × (Int × Int)) → Int → Int → List (Int × Int) → Option (List (Int × Int))) (x0 : List (Int × (Int × Int))) (x1 : Int) (x2 : List (Int × Int)) : Option (List (Int × Int)) :=
 if (decide (x1 ≤ 12)) = true then (L1 x0 x1 0 x2) else (some x2)
noncomputable def b1 (L2 : List (Int × (Int × Int)) → Int → Int → Bool → List (Int × (Int × Int)) → Int → Int → List (Int × Int) → Int → Int → Option (List (Int × Int))) (L0 : List (Int × (Int × Int)) → Int → List (Int × Int) → Option (List (Int × Int))) (x0 : List (Int × (Int × Int))) (x1 x2 : Int) (x3 : List (Int × Int)) : Option (List (Int × Int)) :=
 if (decide (x2 ≤ 12)) = true then (L2 x0 x1 x2 true x0 (dlen x0) 0 x3 x1 x2) else (L0 x0 (W (x1 + 1)) x3)
noncomputable def b2 (L2 : List (Int × (Int × Int)) → Int → Int → Bool → List (Int × (Int × Int)) → Int → Int → List (Int × Int) → Int → Int → Option (List (Int × Int))) (L1 : List (Int × (Int × Int)) → Int → Int → List (Int × Int) → Option (List (Int × Int))) (g0 : Int → Int → Int → Int → Int → Option Bool) (x0 : List (Int × (Int × Int))) (x1 x2 : Int) (x3 : Bool) (x4 : List (Int × (Int × Int))) (x5 x6 : Int) (x7 : List (Int × Int)) (x8 x9 : Int) : Option (List (Int × Int)) :=
 if (decide (x6 < x5)) = true then (if 0 ≤ x6 then (if x6 < (dlen x4) then (if x3 = true then ((g0 (rd (0, (0, 0)) x4 x6).1 (rd (0, (0, 0)) x4 x6).2.1 (rd (0, (0, 0)) x4 x6).2.2 x8 x9).bind fun t0 =>
 L2 x0 x1 x2 t0 x4 x5 (W (x6 + 1)) x7 x8 x9) else (L2 x0 x1 x2 false x4 x5 (W (x6 + 1)) x7 x8 x9)) else (none)) else (none)) else (if x3 = true then (if ((dlenN x7) + 1) ≤ 8796093022208 then (L1 x0 x1 (W (x2 + 1)) (x7 ++ [(x8, x9)])) else (none)) else (L1 x0 x1 (W (x2 + 1)) x7))
mutual
noncomputable def l0 : Nat → List (Int × (Int × Int)) → Int → List (Int × Int) → Option (List (Int × Int))
 | 0, _, _, _ => none
 | k + 1, x0, x1, x2 => b0 (l1 k) x0 x1 x2
noncomputable def l1 : Nat → List (Int × (Int × Int)) → Int → Int → List (Int × Int) → Option (List (Int × Int))
 | 0, _, _, _, _ => none
 | k + 1, x0, x1, x2, x3 => b1 (l2 k) (l0 k) x0 x1 x2 x3
noncomputable def l2 : Nat → List (Int × (Int × Int)) → Int → Int → Bool → List (Int × (Int × Int)) → Int → Int → List (Int × Int) → Int → Int → Option (List (Int × Int))
 | 0, _, _, _, _, _, _, _, _, _, _ => none
 | k + 1, x0, x1, x2, x3, x4, x5, x6, x7, x8, x9 => b2 (l2 k) (l1 k) spec_pzFits.f x0 x1 x2 x3 x4 x5 x6 x7 x8 x9
end
noncomputable def f (k : Nat) (a0 : List (Int × (Int × Int))) : Option (List (Int × Int)) := b (l0 k) a0
theorem e (K : Nat) (a0 : List (Int × (Int × Int))) : p (K + 1) a0 = b (q0 K K) a0 := PI_at Cx (by kernel_rfl)
theorem e0 (K m : Nat) (x0 : List (Int × (Int × Int))) (x1 : Int) (x2 : List (Int × Int)) : q0 K (m + 1) x0 x1 x2 = b0 (q1 K m K) x0 x1 x2 := by kernel_rfl
theorem e1 (K m0 m : Nat) (x0 : List (Int × (Int × Int))) (x1 x2 : Int) (x3 : List (Int × Int)) : q1 K m0 (m + 1) x0 x1 x2 x3 = b1 (q2 K m0 m K) (q0 K m0) x0 x1 x2 x3 := by kernel_rfl
theorem e2 (K m0 m1 m : Nat) (x0 : List (Int × (Int × Int))) (x1 x2 : Int) (x3 : Bool) (x4 : List (Int × (Int × Int))) (x5 x6 : Int) (x7 : List (Int × Int)) (x8 x9 : Int) : q2 K m0 m1 (m + 1) x0 x1 x2 x3 x4 x5 x6 x7 x8 x9 = b2 (q2 K m0 m1 m) (q1 K m0 m1) (spec_pzFits.p K) x0 x1 x2 x3 x4 x5 x6 x7 x8 x9 := by kernel_rfl
theorem kl (n : Nat) : ∀ K, n + 3 ≤ K → (∀ m, n ≤ m → ∀ (x0 : List (Int × (Int × Int))) (x1 : Int) (x2 : List (Int × Int)), Le (l0 n x0 x1 x2) (q0 K m x0 x1 x2)) ∧ (∀ m0, n ≤ m0 → ∀ m, n ≤ m → ∀ (x0 : List (Int × (Int × Int))) (x1 x2 : Int) (x3 : List (Int × Int)), Le (l1 n x0 x1 x2 x3) (q1 K m0 m x0 x1 x2 x3)) ∧ (∀ m0, n ≤ m0 → ∀ m1, n ≤ m1 → ∀ m, n ≤ m → ∀ (x0 : List (Int × (Int × Int))) (x1 x2 : Int) (x3 : Bool) (x4 : List (Int × (Int × Int))) (x5 x6 : Int) (x7 : List (Int × Int)) (x8 x9 : Int), Le (l2 n x0 x1 x2 x3 x4 x5 x6 x7 x8 x9) (q2 K m0 m1 m x0 x1 x2 x3 x4 x5 x6 x7 x8 x9)) := by
 induction n with
 | zero => exact fun K _ => ⟨fun _ _ _ _ _ => Le.none, fun _ _ _ _ _ _ _ _ => Le.none, fun _ _ _ _ _ _ _ _ _ _ _ _ _ _ _ _ => Le.none⟩
 | succ n ih =>
  intro K hK
  have ih := ih K (by omega)
  refine ⟨?_, ?_, ?_⟩
  · intro m hm x0 x1 x2
    obtain ⟨m, rfl⟩ := pos_of_le hm
    rw [e0]
    show Le (b0 (l1 n) x0 x1 x2) _
    unfold b0
    repeat' first | with_reducible apply Le.bind | with_reducible apply Le.ite | with_reducible exact Le.rfl | with_reducible refine ih.1 _ ?_ _ _ _ | with_reducible refine ih.2.1 _ ?_ _ ?_ _ _ _ _ | with_reducible refine ih.2.2 _ ?_ _ ?_ _ ?_ _ _ _ _ _ _ _ _ _ _ | with_reducible intro _ | omega
  · intro m0 h0 m hm x0 x1 x2 x3
    obtain ⟨m, rfl⟩ := pos_of_le hm
    rw [e1]
    show Le (b1 (l2 n) (l0 n) x0 x1 x2 x3) _
    unfold b1
    repeat' first | with_reducible apply Le.bind | with_reducible apply Le.ite | with_reducible exact Le.rfl | with_reducible refine ih.1 _ ?_ _ _ _ | with_reducible refine ih.2.1 _ ?_ _ ?_ _ _ _ _ | with_reducible refine ih.2.2 _ ?_ _ ?_ _ ?_ _ _ _ _ _ _ _ _ _ _ | with_reducible intro _ | omega
  · intro m0 h0 m1 h1 m hm x0 x1 x2 x3 x4 x5 x6 x7 x8 x9
    obtain ⟨m, rfl⟩ := pos_of_le hm
    rw [e2]
    show Le (b2 (l2 n) (l1 n) spec_pzFits.f x0 x1 x2 x3 x4 x5 x6 x7 x8 x9) _
    unfold b2
    repeat' first | with_reducible apply Le.bind | with_reducible apply Le.ite | with_reducible exact Le.rfl | with_reducible refine ih.1 _ ?_ _ _ _ | with_reducible refine ih.2.1 _ ?_ _ ?_ _ _ _ _ | with_reducible refine ih.2.2 _ ?_ _ ?_ _ ?_ _ _ _ _ _ _ _ _ _ _ | with_reducible refine spec_pzFits.k ?_ _ _ _ _ _ | with_reducible intro _ | omega
theorem k {n K : Nat} (h : n + 4 ≤ K) (a0 : List (Int × (Int × Int))) : Le (f n a0) (p K a0) := by
 obtain ⟨K, rfl⟩ := pos_of_le (show 0 + 1 ≤ K by omega)
 have kl := kl n K (by omega)
 rw [e]
 unfold f b
 repeat' first | with_reducible apply Le.bind | with_reducible apply Le.ite | with_reducible exact Le.rfl | with_reducible refine kl.1 _ ?_ _ _ _ | with_reducible refine kl.2.1 _ ?_ _ ?_ _ _ _ _ | with_reducible refine kl.2.2 _ ?_ _ ?_ _ ?_ _ _ _ _ _ _ _ _ _ _ | with_reducible intro _ | omega
end spec_pzAll
namespace spec_Solutions
noncomputable def p (K : Nat) (a0 : List (Int × (Int × Int))) : Option ((List (Int × Int)) × Bool) := PI Cx K 6 [.sv (.agg [.sl 48 (.pair (.int .i64) (.pair (.int .i64) (.int .i64))) a0])]
noncomputable def b (g0 : List (Int × (Int × Int)) → Option Bool) (g1 : List (Int × (Int × Int)) → Option (List (Int × Int))) (a0 : List (Int × (Int × Int))) : Option ((List (Int × Int)) × Bool) :=
 (g0 a0).bind fun t0 =>
 if (!t0) = true then (some (([] : List (Int × Int)), false)) else ((g1 a0).bind fun t1 =>
 some (t1, true))
noncomputable def f (k : Nat) (a0 : List (Int × (Int × Int))) : Option ((List (Int × Int)) × Bool) := b (spec_pzGood.f k) (spec_pzAll.f k) a0
theorem e (K : Nat) (a0 : List (Int × (Int × Int))) : p (K + 1) a0 = b (spec_pzGood.p K) (spec_pzAll.p K) a0 := PI_at Cx (by kernel_rfl)
theorem k {n K : Nat} (h : n + 5 ≤ K) (a0 : List (Int × (Int × Int))) : Le (f n a0) (p K a0) := by
 obtain ⟨K, rfl⟩ := pos_of_le (show 0 + 1 ≤ K by omega)
 rw [e]
 unfold f b
 repeat' first | with_reducible apply Le.bind | with_reducible apply Le.ite | with_reducible exact Le.rfl | with_reducible refine spec_pzGood.k ?_ _ | with_reducible refine spec_pzAll.k ?_ _ | with_reducible intro _ | omega
end spec_Solutions
namespace impl_CountSolutions
noncomputable def p (K : Nat) (a0 : List (Int × (Int × Int))) : Option (Int × Bool) := PI Cx K 7 [.sv (.agg [.sl 48 (.pair (.int .i64) (.pair (.int .i64) (.int .i64))) a0])]
noncomputable def b (g0 : List (Int × (Int × Int)) → Option Bool) (g1 : List (Int × (Int × Int)) → Option (List (Int × Int))) (a0 : List (Int × (Int × Int))) : Option (Int × Bool) :=
 (g0 a0).bind fun t0 =>
 if (!t0) = true then (some (0, false)) else ((g1 a0).bind fun t1 =>
 some ((dlen t1), true))
noncomputable def f (k : Nat) (a0 : List (Int × (Int × Int))) : Option (Int × Bool) := b (impl_IsPuzzle.f k) (impl_solutions.f k) a0
theorem e (K : Nat) (a0 : List (Int × (Int × Int))) : p (K + 1) a0 = b (impl_IsPuzzle.p K) (impl_solutions.p K) a0 := PI_at Cx (by kernel_rfl)
theorem k {n K : Nat} (h : n + 9 ≤ K) (a0 : List (Int × (Int × Int))) : Le (f n a0) (p K a0) := by
 obtain ⟨K, rfl⟩ := pos_of_le (show 0 + 1 ≤ K by omega)
 rw [e]
 unfold f b
 repeat' first | with_reducible apply Le.bind | with_reducible apply Le.ite | with_reducible exact Le.rfl | with_reducible refine impl_IsPuzzle.k ?_ _ | with_reducible refine impl_solutions.k ?_ _ | with_reducible intro _ | omega
end impl_CountSolutions
namespace spec_CountSolutions
noncomputable def p (K : Nat) (a0 : List (Int × (Int × Int))) : Option (Int × Bool) := PI Cx K 8 [.sv (.agg [.sl 48 (.pair (.int .i64) (.pair (.int .i64) (.int .i64))) a0])]
noncomputable def b (g0 : List (Int × (Int × Int)) → Option Bool) (g1 : List (Int × (Int × Int)) → Option (List (Int × Int))) (a0 : List (Int × (Int × Int))) : Option (Int × Bool) :=
 (g0 a0).bind fun t0 =>
 if (!t0) = true then (some (0, false)) else ((g1 a0).bind fun t1 =>
 some ((dlen t1), true))
noncomputable def f (k : Nat) (a0 : List (Int × (Int × Int))) : Option (Int × Bool) := b (spec_pzGood.f k) (spec_pzAll.f k) a0
theorem e (K : Nat) (a0 : List (Int × (Int × Int))) : p (K + 1) a0 = b (spec_pzGood.p K) (spec_pzAll.p K) a0 := PI_at Cx (by kernel_rfl)
theorem k {n K : Nat} (h : n + 5 ≤ K) (a0 : List (Int × (Int × Int))) : Le (f n a0) (p K a0) := by
 obtain ⟨K, rfl⟩ := pos_of_le (show 0 + 1 ≤ K by omega)
 rw [e]
 unfold f b
 repeat' first | with_reducible apply Le.bind | with_reducible apply Le.ite | with_reducible exact Le.rfl | with_reducible refine spec_pzGood.k ?_ _ | with_reducible refine spec_pzAll.k ?_ _ | with_reducible intro _ | omega
end spec_CountSolutions
namespace impl_FirstSolution
noncomputable def p (K : Nat) (a0 : List (Int × (Int × Int))) : Option ((Int × Int) × Bool) := PI Cx K 9 [.sv (.agg [.sl 48 (.pair (.int .i64) (.pair (.int .i64) (.int .i64))) a0])]
noncomputable def b (g0 : List (Int × (Int × Int)) → Option Bool) (g1 : List (Int × (Int × Int)) → Option (List (Int × Int))) (a0 : List (Int × (Int × Int))) : Option ((Int × Int) × Bool) :=
 (g0 a0).bind fun t0 =>
 if (!t0) = true then (some ((0, 0), false)) else ((g1 a0).bind fun t1 =>
 if ((dlen t1) == 0) = true then (some ((0, 0), false)) else (if 0 < (dlen t1) then (some ((rd (0, 0) t1 0), true)) else (none)))
noncomputable def f (k : Nat) (a0 : List (Int × (Int × Int))) : Option ((Int × Int) × Bool) := b (impl_IsPuzzle.f k) (impl_solutions.f k) a0
theorem e (K : Nat) (a0 : List (Int × (Int × Int))) : p (K + 1) a0 = b (impl_IsPuzzle.p K) (impl_solutions.p K) a0 := PI_at Cx (by kernel_rfl)
theorem k {n K : Nat} (h : n + 9 ≤ K) (a0 : List (Int × (Int × Int))) : Le (f n a0) (p K a0) := by
 obtain ⟨K, rfl⟩ := pos_of_le (show 0 + 1 ≤ K by omega)
 rw [e]
 unfold f b
 repeat' first | with_reducible apply Le.bind | with_reducible apply Le.ite | with_reducible exact Le.rfl | with_reducible refine impl_IsPuzzle.k ?_ _ | with_reducible refine impl_solutions.k ?_ _ | with_reducible intro _ | omega
end impl_FirstSolution
namespace spec_FirstSolution
noncomputable def p (K : Nat) (a0 : List (Int × (Int × Int))) : Option ((Int × Int) × Bool) := PI Cx K 10 [.sv (.agg [.sl 48 (.pair (.int .i64) (.pair (.int .i64) (.int .i64))) a0])]
noncomputable def b (g0 : List (Int × (Int × Int)) → Option Bool) (g1 : List (Int × (Int × Int)) → Option (List (Int × Int))) (a0 : List (Int × (Int × Int))) : Option ((Int × Int) × Bool) :=
 (g0 a0).bind fun t0 =>
 if (!t0) = true then (some ((0, 0), false)) else ((g1 a0).bind fun t1 =>
 if ((dlen t1) == 0) = true then (some ((0, 0), false)) else (if 0 < (dlen t1) then (some ((rd (0, 0) t1 0), true)) else (none)))
noncomputable def f (k : Nat) (a0 : List (Int × (Int × Int))) : Option ((Int × Int) × Bool) := b (spec_pzGood.f k) (spec_pzAll.f k) a0
theorem e (K : Nat) (a0 : List (Int × (Int × Int))) : p (K + 1) a0 = b (spec_pzGood.p K) (spec_pzAll.p K) a0 := PI_at Cx (by kernel_rfl)
theorem k {n K : Nat} (h : n + 5 ≤ K) (a0 : List (Int × (Int × Int))) : Le (f n a0) (p K a0) := by
 obtain ⟨K, rfl⟩ := pos_of_le (show 0 + 1 ≤ K by omega)
 rw [e]
 unfold f b
 repeat' first | with_reducible apply Le.bind | with_reducible apply Le.ite | with_reducible exact Le.rfl | with_reducible refine spec_pzGood.k ?_ _ | with_reducible refine spec_pzAll.k ?_ _ | with_reducible intro _ | omega
end spec_FirstSolution
namespace impl_SureSnail
noncomputable def p (K : Nat) (a0 : List (Int × (Int × Int))) : Option (Int × (Int × Bool)) := PI Cx K 11 [.sv (.agg [.sl 48 (.pair (.int .i64) (.pair (.int .i64) (.int .i64))) a0])]
noncomputable def q0 (K m : Nat) (x0 x1 : Int) (x2 : List (Int × Int)) (x3 x4 : Int) : Option (Int × (Int × Bool)) := runAt Cx K 11 [true, true, true, true, true, false, true, true] [m] ⟨[(6, .sv (.one (.int .i64 x0))), (7, .sv (.one (.int .i64 x1))), (27, .sv (.one (.sl 31 (.pair (.int .i64) (.int .i64)) x2))), (28, .sv (.one (.int .i64 x3))), (29, .sv (.one (.int .i64 x4)))], [], []⟩
noncomputable def b (L0 : Int → Int → List (Int × Int) → Int → Int → Option (Int × (Int × Bool))) (g0 : List (Int × (Int × Int)) → Option Bool) (g1 : List (Int × (Int × Int)) → Option (List (Int × Int))) (a0 : List (Int × (Int × Int))) : Option (Int × (Int × Bool)) :=
 (g0 a0).bind fun t0 =>
 if (!t0) = true then (some (0, (0, false))) else ((g1 a0).bind fun t1 =>
 if ((dlen t1) == 0) = true then (some (0, (0, false))) else (if 0 < (dlen t1) then (if 0 < (dlen t1) then (L0 (rd (0, 0) t1 0).1 (rd (0, 0) t1 0).2 t1 (dlen t1) 0) else (none)) else (none)))
noncomputable def b0 (L0 : Int → Int → List (Int × Int) → Int → Int → Option (Int × (Int × Bool))) (x0 x1 : Int) (x2 : List (Int × Int)) (x3 x4 : Int) : Option (Int × (Int × Bool)) :=
 if (decide (x4 < x3)) = true then (if 0 ≤ x4 then (if x4 < (dlen x2) then (if ((rd (0, 0) x2 x4).1 != x0) = true then (if ((rd (0, 0) x2 x4).2 != x1) = true then (L0 (-1) (-1) x2 x3 (W (x4 + 1))) else (L0 (-1) x1 x2 x3 (W (x4 + 1)))) else (if ((rd (0, 0) x2 x4).2 != x1) = true then (L0 x0 (-1) x2 x3 (W (x4 + 1))) else (L0 x0 x1 x2 x3 (W (x4 + 1))))) else (none)) else (none)) else (some (x0, (x1, true)))
noncomputable def l0 : Nat → Int → Int → List (Int × Int) → Int → Int → Option (Int × (Int × Bool))
 | 0, _, _, _, _, _ => none
 | k + 1, x0, x1, x2, x3, x4 => b0 (l0 k) x0 x1 x2 x3 x4
noncomputable def f (k : Nat) (a0 : List (Int × (Int × Int))) : Option (Int × (Int × Bool)) := b (l0 k) (impl_IsPuzzle.f k) (impl_solutions.f k) a0
theorem e (K : Nat) (a0 : List (Int × (Int × Int))) : p (K + 1) a0 = b (q0 K K) (impl_IsPuzzle.p K) (impl_solutions.p K) a0 := PI_at Cx (by kernel_rfl)
theorem e0 (K m : Nat) (x0 x1 : Int) (x2 : List (Int × Int)) (x3 x4 : Int) : q0 K (m + 1) x0 x1 x2 x3 x4 = b0 (q0 K m) x0 x1 x2 x3 x4 := by kernel_rfl
theorem kl (n : Nat) : ∀ K, n + 8 ≤ K → (∀ m, n ≤ m → ∀ (x0 x1 : Int) (x2 : List (Int × Int)) (x3 x4 : Int), Le (l0 n x0 x1 x2 x3 x4) (q0 K m x0 x1 x2 x3 x4)) := by
 induction n with
 | zero => exact fun K _ => fun _ _ _ _ _ _ _ => Le.none
 | succ n ih =>
  intro K hK
  have ih := ih K (by omega)
  intro m hm x0 x1 x2 x3 x4
  obtain ⟨m, rfl⟩ := pos_of_le hm
  rw [e0]
  show Le (b0 (l0 n) x0 x1 x2 x3 x4) _
  unfold b0
  repeat' first | with_reducible apply Le.bind | with_reducible apply Le.ite | with_reducible exact Le.rfl | with_reducible refine ih _ ?_ _ _ _ _ _ | with_reducible intro _ | omega
theorem k {n K : Nat} (h : n + 9 ≤ K) (a0 : List (Int × (Int × Int))) : Le (f n a0) (p K a0) := by
 obtain ⟨K, rfl⟩ := pos_of_le (show 0 + 1 ≤ K by omega)
 have kl := kl n K (by omega)
 rw [e]
 unfold f b
 repeat' first | with_reducible apply Le.bind | with_reducible apply Le.ite | with_reducible exact Le.rfl | with_reducible refine kl _ ?_ _ _ _ _ _ | with_reducible refine impl_IsPuzzle.k ?_ _ | with_reducible refine impl_solutions.k ?_ _ | with_reducible intro _ | omega
end impl_SureSnail
namespace spec_SureSnail
noncomputable def p (K : Nat) (a0 : List (Int × (Int × Int))) : Option (Int × (Int × Bool)) := PI Cx K 12 [.sv (.agg [.sl 48 (.pair (.int .i64) (.pair (.int .i64) (.int .i64))) a0])]
noncomputable def q0 (K m : Nat) (x0 x1 : Int) (x2 : List (Int × Int)) (x3 x4 : Int) : Option (Int × (Int × Bool)) := runAt Cx K 12 [true, true, true, true, true, false, true, true] [m] ⟨[(6, .sv (.one (.int .i64 x0))), (7, .sv (.one (.int .i64 x1))), (27, .sv (.one (.sl 31 (.pair (.int .i64) (.int .i64)) x2))), (28, .sv (.one (.int .i64 x3))), (29, .sv (.one (.int .i64 x4)))], [], []⟩
noncomputable def b (L0 : Int → Int → List (Int × Int) → Int → Int → Option (Int × (Int × Bool))) (g0 : List (Int × (Int × Int)) → Option Bool) (g1 : List (Int × (Int × Int)) → Option (List (Int × Int))) (a0 : List (Int × (Int × Int))) : Option (Int × (Int × Bool)) :=
 (g0 a0).bind fun t0 =>
 if (!t0) = true then (some (0, (0, false))) else ((g1 a0).bind fun t1 =>
 if ((dlen t1) == 0) = true then (some (0, (0, false))) else (if 0 < (dlen t1) then (if 0 < (dlen t1) then (L0 (rd (0, 0) t1 0).1 (rd (0, 0) t1 0).2 t1 (dlen t1) 0) else (none)) else (none)))
noncomputable def b0 (L0 : Int → Int → List (Int × Int) → Int → Int → Option (Int × (Int × Bool))) (x0 x1 : Int) (x2 : List (Int × Int)) (x3 x4 : Int) : Option (Int × (Int × Bool)) :=
 if (decide (x4 < x3)) = true then (if 0 ≤ x4 then (if x4 < (dlen x2) then (if ((rd (0, 0) x2 x4).1 != x0) = true then (if ((rd (0, 0) x2 x4).2 != x1) = true then (L0 (-1) (-1) x2 x3 (W (x4 + 1))) else (L0 (-1) x1 x2 x3 (W (x4 + 1)))) else (if ((rd (0, 0) x2 x4).2 != x1) = true then (L0 x0 (-1) x2 x3 (W (x4 + 1))) else (L0 x0 x1 x2 x3 (W (x4 + 1))))) else (none)) else (none)) else (some (x0, (x1, true)))
noncomputable def l0 : Nat → Int → Int → List (Int × Int) → Int → Int → Option (Int × (Int × Bool))
 | 0, _, _, _, _, _ => none
 | k + 1, x0, x1, x2, x3, x4 => b0 (l0 k) x0 x1 x2 x3 x4
noncomputable def f (k : Nat) (a0 : List (Int × (Int × Int))) : Option (Int × (Int × Bool)) := b (l0 k) (spec_pzGood.f k) (spec_pzAll.f k) a0
theorem e (K : Nat) (a0 : List (Int × (Int × Int))) : p (K + 1) a0 = b (q0 K K) (spec_pzGood.p K) (spec_pzAll.p K) a0 := PI_at Cx (by kernel_rfl)
theorem e0 (K m : Nat) (x0 x1 : Int) (x2 : List (Int × Int)) (x3 x4 : Int) : q0 K (m + 1) x0 x1 x2 x3 x4 = b0 (q0 K m) x0 x1 x2 x3 x4 := by kernel_rfl
theorem kl (n : Nat) : ∀ K, n + 4 ≤ K → (∀ m, n ≤ m → ∀ (x0 x1 : Int) (x2 : List (Int × Int)) (x3 x4 : Int), Le (l0 n x0 x1 x2 x3 x4) (q0 K m x0 x1 x2 x3 x4)) := by
 induction n with
 | zero => exact fun K _ => fun _ _ _ _ _ _ _ => Le.none
 | succ n ih =>
  intro K hK
  have ih := ih K (by omega)
  intro m hm x0 x1 x2 x3 x4
  obtain ⟨m, rfl⟩ := pos_of_le hm
  rw [e0]
  show Le (b0 (l0 n) x0 x1 x2 x3 x4) _
  unfold b0
  repeat' first | with_reducible apply Le.bind | with_reducible apply Le.ite | with_reducible exact Le.rfl | with_reducible refine ih _ ?_ _ _ _ _ _ | with_reducible intro _ | omega
theorem k {n K : Nat} (h : n + 5 ≤ K) (a0 : List (Int × (Int × Int))) : Le (f n a0) (p K a0) := by
 obtain ⟨K, rfl⟩ := pos_of_le (show 0 + 1 ≤ K by omega)
 have kl := kl n K (by omega)
 rw [e]
 unfold f b
 repeat' first | with_reducible apply Le.bind | with_reducible apply Le.ite | with_reducible exact Le.rfl | with_reducible refine kl _ ?_ _ _ _ _ _ | with_reducible refine spec_pzGood.k ?_ _ | with_reducible refine spec_pzAll.k ?_ _ | with_reducible intro _ | omega
end spec_SureSnail
namespace impl_IsSolved
noncomputable def p (K : Nat) (a0 : List (Int × (Int × Int))) : Option (Bool × Bool) := PI Cx K 13 [.sv (.agg [.sl 48 (.pair (.int .i64) (.pair (.int .i64) (.int .i64))) a0])]
noncomputable def b (g0 : List (Int × (Int × Int)) → Option Bool) (g1 : List (Int × (Int × Int)) → Option (List (Int × Int))) (a0 : List (Int × (Int × Int))) : Option (Bool × Bool) :=
 (g0 a0).bind fun t0 =>
 if (!t0) = true then (some (false, false)) else ((g1 a0).bind fun t1 =>
 some (((dlen t1) == 1), true))
noncomputable def f (k : Nat) (a0 : List (Int × (Int × Int))) : Option (Bool × Bool) := b (impl_IsPuzzle.f k) (impl_solutions.f k) a0
theorem e (K : Nat) (a0 : List (Int × (Int × Int))) : p (K + 1) a0 = b (impl_IsPuzzle.p K) (impl_solutions.p K) a0 := PI_at Cx (by kernel_rfl)
theorem k {n K : Nat} (h : n + 9 ≤ K) (a0 : List (Int × (Int × Int))) : Le (f n a0) (p K a0) := by
 obtain ⟨K, rfl⟩ := pos_of_le (show 0 + 1 ≤ K by omega)
 rw [e]
 unfold f b
 repeat' first | with_reducible apply Le.bind | with_reducible apply Le.ite | with_reducible exact Le.rfl | with_reducible refine impl_IsPuzzle.k ?_ _ | with_reducible refine impl_solutions.k ?_ _ | with_reducible intro _ | omega
end impl_IsSolved
namespace spec_pzSolved
noncomputable def p (K : Nat) (a0 : List (Int × (Int × Int))) : Option Bool := PI Cx K 40 [.sv (.one (.sl 48 (.pair (.int .i64) (.pair (.int .i64) (.int .i64))) a0))]
noncomputable def b (g0 : List (Int × (Int × Int)) → Option (List (Int × Int))) (a0 : List (Int × (Int × Int))) : Option Bool :=
 (g0 a0).bind fun t0 =>
 some ((dlen t0) == 1)
noncomputable def f (k : Nat) (a0 : List (Int × (Int × Int))) : Option Bool := b (spec_pzAll.f k) a0
theorem e (K : Nat) (a0 : List (Int × (Int × Int))) : p (K + 1) a0 = b (spec_pzAll.p K) a0 := PI_at Cx (by kernel_rfl)
theorem k {n K : Nat} (h : n + 5 ≤ K) (a0 : List (Int × (Int × Int))) : Le (f n a0) (p K a0) := by
 obtain ⟨K, rfl⟩ := pos_of_le (show 0 + 1 ≤ K by omega)
 rw [e]
 unfold f b
 repeat' first | with_reducible apply Le.bind | with_reducible apply Le.ite | with_reducible exact Le.rfl | with_reducible refine spec_pzAll.k ?_ _ | with_reducible intro _ | omega
end spec_pzSolved
namespace spec_IsSolved
noncomputable def p (K : Nat) (a0 : List (Int × (Int × Int))) : Option (Bool × Bool) := PI Cx K 14 [.sv (.agg [.sl 48 (.pair (.int .i64) (.pair (.int .i64) (.int .i64))) a0])]
noncomputable def b (g0 : List (Int × (Int × Int)) → Option Bool) (g1 : List (Int × (Int × Int)) → Option Bool) (a0 : List (Int × (Int × Int))) : Option (Bool × Bool) :=
 (g0 a0).bind fun t0 =>
 if (!t0) = true then (some (false, false)) else ((g1 a0).bind fun t1 =>
 some (t1, true))
noncomputable def f (k : Nat) (a0 : List (Int × (Int × Int))) : Option (Bool × Bool) := b (spec_pzGood.f k) (spec_pzSolved.f k) a0
theorem e (K : Nat) (a0 : List (Int × (Int × Int))) : p (K + 1) a0 = b (spec_pzGood.p K) (spec_pzSolved.p K) a0 := PI_at Cx (by kernel_rfl)
theorem k {n K : Nat} (h : n + 6 ≤ K) (a0 : List (Int × (Int × Int))) : Le (f n a0) (p K a0) := by
 obtain ⟨K, rfl⟩ := pos_of_le (show 0 + 1 ≤ K by omega)
 rw [e]
 unfold f b
 repeat' first | with_reducible apply Le.bind | with_reducible apply Le.ite | with_reducible exact Le.rfl | with_reducible refine spec_pzGood.k ?_ _ | with_reducible refine spec_pzSolved.k ?_ _ | with_reducible intro _ | omega
end spec_IsSolved
namespace slices_Clone_impl_Clue_impl_Clue
noncomputable def p (K : Nat) (a0 : List (Int × (Int × Int))) : Option (List (Int × (Int × Int))) := PI Cx K 63 [.sv (.one (.sl 48 (.pair (.int .i64) (.pair (.int .i64) (.int .i64))) a0))]
noncomputable def f (a0 : List (Int × (Int × Int))) : Option (List (Int × (Int × Int))) := if a0.length ≤ 5864062014805 then some a0 else none
theorem e (K : Nat) (a0 : List (Int × (Int × Int))) : p (K + 1) a0 = f a0 := PI_at Cx (by kernel_rfl)
theorem k {K : Nat} (h : 1 ≤ K) (a0 : List (Int × (Int × Int))) : Le (f a0) (p K a0) := by
 obtain ⟨K, rfl⟩ := pos_of_le h
 rw [e]
 exact Le.rfl
end slices_Clone_impl_Clue_impl_Clue
end Go.Proofs.YtlibgicponpecaaGreatDoor.Ga
