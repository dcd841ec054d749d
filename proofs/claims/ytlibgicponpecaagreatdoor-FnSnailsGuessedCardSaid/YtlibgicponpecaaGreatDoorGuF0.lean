import Derived.Test.YtlibgicponpecaaGreatDoorGuC
namespace Go.Proofs.YtlibgicponpecaaGreatDoor.Gu
open Go Go.Proofs.YtlibgicponpecaaGreatDoorPi Go.RowKit
set_option maxRecDepth 100000
set_option linter.unusedVariables false
namespace laws_big
noncomputable def p (K : Nat) (a0 a1 : List Int) : Option Bool := PI Cx K 34 [.sv (.one (.sl 5 (.int .u8) a0)), .sv (.one (.sl 5 (.int .u8) a1))]
noncomputable def f (a0 a1 : List Int) : Option Bool :=
 if (decide ((dlen a0) > 1048576)) = true then (some true) else (some (decide ((dlen a1) > (W (1048576 - (dlen a0))))))
theorem e (K : Nat) (a0 a1 : List Int) : p (K + 1) a0 a1 = f a0 a1 := PI_at Cx (by kernel_rfl)
theorem k {K : Nat} (h : 1 ≤ K) (a0 a1 : List Int) : Le (f a0 a1) (p K a0 a1) := by
 obtain ⟨K, rfl⟩ := pos_of_le h
 rw [e]
 exact Le.rfl
end laws_big
namespace spec_l1Cur_next
noncomputable def p (K : Nat) (a0 : List Int) (a1 a2 : Int) : Option (Int × ((List Int) × (Int × Int))) := PI Cx K 96 [.sv (.agg [.sl 5 (.int .u8) a0, .int .i64 a1, .int .u64 a2])]
noncomputable def f (a0 : List Int) (a1 a2 : Int) : Option (Int × ((List Int) × (Int × Int))) :=
 if (decide (a1 < (dlen a0))) = true then (if 0 ≤ a1 then (if a1 < (dlen a0) then (if (decide ((W (a1 + 1)) ≤ (dlen a0))) = true then (some ((W (rd 0 a0 a1)), (a0, ((W (a1 + 1)), (IntKind.wrap .u64 ((IntKind.wrap .u64 ((IntKind.wrap .u64 (a2 * 6364136223846793005)) + (IntKind.wrap .u64 (W (rd 0 a0 a1))))) + 1442695040888963407)))))) else (some ((W (Go.bits .and .u64 (ishr (IntKind.wrap .u64 ((IntKind.wrap .u64 ((IntKind.wrap .u64 (a2 * 6364136223846793005)) + (IntKind.wrap .u64 (W (rd 0 a0 a1))))) + 1442695040888963407)) 40) 255)), (a0, ((W (a1 + 1)), (IntKind.wrap .u64 ((IntKind.wrap .u64 ((IntKind.wrap .u64 (a2 * 6364136223846793005)) + (IntKind.wrap .u64 (W (rd 0 a0 a1))))) + 1442695040888963407))))))) else (none)) else (none)) else (if (decide ((W (a1 + 1)) ≤ (dlen a0))) = true then (some (0, (a0, ((W (a1 + 1)), (IntKind.wrap .u64 ((IntKind.wrap .u64 ((IntKind.wrap .u64 (a2 * 6364136223846793005)) + 0)) + 1442695040888963407)))))) else (some ((W (Go.bits .and .u64 (ishr (IntKind.wrap .u64 ((IntKind.wrap .u64 ((IntKind.wrap .u64 (a2 * 6364136223846793005)) + 0)) + 1442695040888963407)) 40) 255)), (a0, ((W (a1 + 1)), (IntKind.wrap .u64 ((IntKind.wrap .u64 ((IntKind.wrap .u64 (a2 * 6364136223846793005)) + 0)) + 1442695040888963407)))))))
theorem e (K : Nat) (a0 : List Int) (a1 a2 : Int) : p (K + 1) a0 a1 a2 = f a0 a1 a2 := PI_at Cx (by kernel_rfl)
theorem k {K : Nat} (h : 1 ≤ K) (a0 : List Int) (a1 a2 : Int) : Le (f a0 a1 a2) (p K a0 a1 a2) := by
 obtain ⟨K, rfl⟩ := pos_of_le h
 rw [e]
 exact Le.rfl
end spec_l1Cur_next
namespace spec_l1Cur_pick
noncomputable def p (K : Nat) (a0 : List Int) (a1 a2 a3 : Int) : Option (Int × ((List Int) × (Int × Int))) := PI Cx K 79 [.sv (.agg [.sl 5 (.int .u8) a0, .int .i64 a1, .int .u64 a2]), .sv (.one (.int .i64 a3))]
noncomputable def b (g0 : List Int → Int → Int → Option (Int × ((List Int) × (Int × Int)))) (a0 : List Int) (a1 a2 a3 : Int) : Option (Int × ((List Int) × (Int × Int))) :=
 if (decide (a3 ≤ 1)) = true then (some (0, (a0, (a1, a2)))) else ((g0 a0 a1 a2).bind fun t0 =>
 if (decide (a3 > 200)) = true then ((g0 t0.2.1 t0.2.2.1 t0.2.2.2).bind fun t1 =>
 if a3 = 0 then (none) else (some ((Int.tmod (W ((W (t0.1 * 256)) + t1.1)) a3), t1.2))) else (if a3 = 0 then (none) else (some ((Int.tmod t0.1 a3), t0.2))))
noncomputable def f (a0 : List Int) (a1 a2 a3 : Int) : Option (Int × ((List Int) × (Int × Int))) := b spec_l1Cur_next.f a0 a1 a2 a3
theorem e (K : Nat) (a0 : List Int) (a1 a2 a3 : Int) : p (K + 1) a0 a1 a2 a3 = b (spec_l1Cur_next.p K) a0 a1 a2 a3 := PI_at Cx (by kernel_rfl)
theorem k {K : Nat} (h : 2 ≤ K) (a0 : List Int) (a1 a2 a3 : Int) : Le (f a0 a1 a2 a3) (p K a0 a1 a2 a3) := by
 obtain ⟨K, rfl⟩ := pos_of_le (show 0 + 1 ≤ K by omega)
 rw [e]
 unfold f b
 repeat' first | with_reducible apply Le.bind | with_reducible apply Le.ite | with_reducible exact Le.rfl | with_reducible refine spec_l1Cur_next.k ?_ _ _ _ | with_reducible intro _ | omega
end spec_l1Cur_pick
namespace spec_l1Cur_hidden
noncomputable def p (K : Nat) (a0 : List Int) (a1 a2 : Int) : Option ((Int × Int) × ((List Int) × (Int × Int))) := PI Cx K 78 [.sv (.agg [.sl 5 (.int .u8) a0, .int .i64 a1, .int .u64 a2])]
noncomputable def b (g0 : List Int → Int → Int → Int → Option (Int × ((List Int) × (Int × Int)))) (a0 : List Int) (a1 a2 : Int) : Option ((Int × Int) × ((List Int) × (Int × Int))) :=
 (g0 a0 a1 a2 12).bind fun t0 =>
 (g0 t0.2.1 t0.2.2.1 t0.2.2.2 13).bind fun t1 =>
 some (((W (1 + t0.1)), t1.1), t1.2)
noncomputable def f (a0 : List Int) (a1 a2 : Int) : Option ((Int × Int) × ((List Int) × (Int × Int))) := b spec_l1Cur_pick.f a0 a1 a2
theorem e (K : Nat) (a0 : List Int) (a1 a2 : Int) : p (K + 1) a0 a1 a2 = b (spec_l1Cur_pick.p K) a0 a1 a2 := PI_at Cx (by kernel_rfl)
theorem k {K : Nat} (h : 3 ≤ K) (a0 : List Int) (a1 a2 : Int) : Le (f a0 a1 a2) (p K a0 a1 a2) := by
 obtain ⟨K, rfl⟩ := pos_of_le (show 0 + 1 ≤ K by omega)
 rw [e]
 unfold f b
 repeat' first | with_reducible apply Le.bind | with_reducible apply Le.ite | with_reducible exact Le.rfl | with_reducible refine spec_l1Cur_pick.k ?_ _ _ _ _ | with_reducible intro _ | omega
end spec_l1Cur_hidden
namespace spec_l1In
noncomputable def p (K : Nat) (a0 a1 a2 : Int) : Option Bool := PI Cx K 80 [.sv (.one (.int .i64 a0)), .sv (.one (.int .i64 a1)), .sv (.one (.int .i64 a2))]
noncomputable def f (a0 a1 a2 : Int) : Option Bool :=
 if (decide (a0 ≥ a1)) = true then (some (decide (a0 ≤ a2))) else (some false)
theorem e (K : Nat) (a0 a1 a2 : Int) : p (K + 1) a0 a1 a2 = f a0 a1 a2 := PI_at Cx (by kernel_rfl)
theorem k {K : Nat} (h : 1 ≤ K) (a0 a1 a2 : Int) : Le (f a0 a1 a2) (p K a0 a1 a2) := by
 obtain ⟨K, rfl⟩ := pos_of_le h
 rw [e]
 exact Le.rfl
end spec_l1In
namespace spec_snGood
noncomputable def p (K : Nat) (a0 a1 : Int) : Option Bool := PI Cx K 111 [.sv (.agg [.int .i64 a0, .int .i64 a1])]
noncomputable def b (g0 : Int → Int → Int → Option Bool) (a0 a1 : Int) : Option Bool :=
 (g0 a0 1 1000).bind fun t0 =>
 if t0 = true then ((g0 a1 0 1000).bind fun t1 =>
 some t1) else (some false)
noncomputable def f (a0 a1 : Int) : Option Bool := b spec_l1In.f a0 a1
theorem e (K : Nat) (a0 a1 : Int) : p (K + 1) a0 a1 = b (spec_l1In.p K) a0 a1 := PI_at Cx (by kernel_rfl)
theorem k {K : Nat} (h : 2 ≤ K) (a0 a1 : Int) : Le (f a0 a1) (p K a0 a1) := by
 obtain ⟨K, rfl⟩ := pos_of_le (show 0 + 1 ≤ K by omega)
 rw [e]
 unfold f b
 repeat' first | with_reducible apply Le.bind | with_reducible apply Le.ite | with_reducible exact Le.rfl | with_reducible refine spec_l1In.k ?_ _ _ _ | with_reducible intro _ | omega
end spec_snGood
namespace spec_pzHidden
noncomputable def p (K : Nat) (a0 a1 : Int) : Option Bool := PI Cx K 93 [.sv (.agg [.int .i64 a0, .int .i64 a1])]
noncomputable def b (g0 : Int → Int → Option Bool) (a0 a1 : Int) : Option Bool :=
 (g0 a0 a1).bind fun t0 =>
 if t0 = true then (if (decide (a0 ≤ 12)) = true then (some (decide (a1 ≤ 12))) else (some false)) else (some false)
noncomputable def f (a0 a1 : Int) : Option Bool := b spec_snGood.f a0 a1
theorem e (K : Nat) (a0 a1 : Int) : p (K + 1) a0 a1 = b (spec_snGood.p K) a0 a1 := PI_at Cx (by kernel_rfl)
theorem k {K : Nat} (h : 3 ≤ K) (a0 a1 : Int) : Le (f a0 a1) (p K a0 a1) := by
 obtain ⟨K, rfl⟩ := pos_of_le (show 0 + 1 ≤ K by omega)
 rw [e]
 unfold f b
 repeat' first | with_reducible apply Le.bind | with_reducible apply Le.ite | with_reducible exact Le.rfl | with_reducible refine spec_snGood.k ?_ _ _ | with_reducible intro _ | omega
end spec_pzHidden
namespace spec_pzNext
noncomputable def p (K : Nat) (a0 : Int) : Option Int := PI Cx K 94 [.sv (.one (.int .i64 a0))]
noncomputable def f (a0 : Int) : Option Int :=
 some (Int.tmod (W ((W (227 * a0)) + 2027)) 10007)
theorem e (K : Nat) (a0 : Int) : p (K + 1) a0 = f a0 := PI_at Cx (by kernel_rfl)
theorem k {K : Nat} (h : 1 ≤ K) (a0 : Int) : Le (f a0) (p K a0) := by
 obtain ⟨K, rfl⟩ := pos_of_le h
 rw [e]
 exact Le.rfl
end spec_pzNext
namespace spec_snCan
noncomputable def p (K : Nat) (a0 a1 a2 : Int) : Option Bool := PI Cx K 97 [.sv (.agg [.int .i64 a0, .int .i64 a1]), .sv (.one (.int .i64 a2))]
noncomputable def f (a0 a1 a2 : Int) : Option Bool :=
 if (decide (a0 ≥ a2)) = true then (some true) else (some (decide (a0 > a1)))
theorem e (K : Nat) (a0 a1 a2 : Int) : p (K + 1) a0 a1 a2 = f a0 a1 a2 := PI_at Cx (by kernel_rfl)
theorem k {K : Nat} (h : 1 ≤ K) (a0 a1 a2 : Int) : Le (f a0 a1 a2) (p K a0 a1 a2) := by
 obtain ⟨K, rfl⟩ := pos_of_le h
 rw [e]
 exact Le.rfl
end spec_snCan
namespace spec_snDays
noncomputable def p (K : Nat) (a0 a1 a2 : Int) : Option Int := PI Cx K 98 [.sv (.agg [.int .i64 a0, .int .i64 a1]), .sv (.one (.int .i64 a2))]
noncomputable def f (a0 a1 a2 : Int) : Option Int :=
 if (decide (a0 ≥ a2)) = true then (some 1) else (if (W (a0 - a1)) = 0 then (none) else (some (W (1 + (W (Int.tdiv (W ((W ((W (a2 - a0)) + (W (a0 - a1)))) - 1)) (W (a0 - a1))))))))
theorem e (K : Nat) (a0 a1 a2 : Int) : p (K + 1) a0 a1 a2 = f a0 a1 a2 := PI_at Cx (by kernel_rfl)
theorem k {K : Nat} (h : 1 ≤ K) (a0 a1 a2 : Int) : Le (f a0 a1 a2) (p K a0 a1 a2) := by
 obtain ⟨K, rfl⟩ := pos_of_le h
 rw [e]
 exact Le.rfl
end spec_snDays
namespace spec_snEvening
noncomputable def p (K : Nat) (a0 a1 a2 : Int) : Option Int := PI Cx K 100 [.sv (.agg [.int .i64 a0, .int .i64 a1]), .sv (.one (.int .i64 a2))]
noncomputable def f (a0 a1 a2 : Int) : Option Int :=
 if (decide (a1 ≥ a0)) = true then (some a0) else (some (W (a0 + (W ((W (a2 - 1)) * (W (a0 - a1)))))))
theorem e (K : Nat) (a0 a1 a2 : Int) : p (K + 1) a0 a1 a2 = f a0 a1 a2 := PI_at Cx (by kernel_rfl)
theorem k {K : Nat} (h : 1 ≤ K) (a0 a1 a2 : Int) : Le (f a0 a1 a2) (p K a0 a1 a2) := by
 obtain ⟨K, rfl⟩ := pos_of_le h
 rw [e]
 exact Le.rfl
end spec_snEvening
namespace spec_l1Least
noncomputable def p (K : Nat) (a0 a1 : Int) : Option Int := PI Cx K 99 [.sv (.one (.int .i64 a0)), .sv (.one (.int .i64 a1))]
noncomputable def f (a0 a1 : Int) : Option Int :=
 if (decide (a0 < a1)) = true then (some a0) else (some a1)
theorem e (K : Nat) (a0 a1 : Int) : p (K + 1) a0 a1 = f a0 a1 := PI_at Cx (by kernel_rfl)
theorem k {K : Nat} (h : 1 ≤ K) (a0 a1 : Int) : Le (f a0 a1) (p K a0 a1) := by
 obtain ⟨K, rfl⟩ := pos_of_le h
 rw [e]
 exact Le.rfl
end spec_l1Least
namespace spec_pzValue
noncomputable def p (K : Nat) (a0 a1 a2 a3 : Int) : Option Int := PI Cx K 81 [.sv (.one (.int .i64 a0)), .sv (.one (.int .i64 a1)), .sv (.agg [.int .i64 a2, .int .i64 a3])]
noncomputable def b (g0 : Int → Int → Int → Option Bool) (g1 : Int → Int → Int → Option Int) (g2 : Int → Int → Int → Option Int) (g3 : Int → Int → Option Int) (a0 a1 a2 a3 : Int) : Option Int :=
 if (a0 == 0) = true then ((g0 a2 a3 a1).bind fun t0 =>
 if (!t0) = true then (some 0) else ((g1 a2 a3 a1).bind fun t1 =>
 some t1)) else (if (a0 == 1) = true then ((g2 a2 a3 a1).bind fun t0 =>
 (g3 100 t0).bind fun t1 =>
 some t1) else (if (a0 == 2) = true then (some (W (a2 + a3))) else (if (a0 == 3) = true then (if a1 = 0 then (none) else (if ((Int.tmod a2 a1) == 0) = true then (some 1) else (some 0))) else (some (W (a2 - a3))))))
noncomputable def f (a0 a1 a2 a3 : Int) : Option Int := b spec_snCan.f spec_snDays.f spec_snEvening.f spec_l1Least.f a0 a1 a2 a3
theorem e (K : Nat) (a0 a1 a2 a3 : Int) : p (K + 1) a0 a1 a2 a3 = b (spec_snCan.p K) (spec_snDays.p K) (spec_snEvening.p K) (spec_l1Least.p K) a0 a1 a2 a3 := PI_at Cx (by kernel_rfl)
theorem k {K : Nat} (h : 2 ≤ K) (a0 a1 a2 a3 : Int) : Le (f a0 a1 a2 a3) (p K a0 a1 a2 a3) := by
 obtain ⟨K, rfl⟩ := pos_of_le (show 0 + 1 ≤ K by omega)
 rw [e]
 unfold f b
 repeat' first | with_reducible apply Le.bind | with_reducible apply Le.ite | with_reducible exact Le.rfl | with_reducible refine spec_snCan.k ?_ _ _ _ | with_reducible refine spec_snDays.k ?_ _ _ _ | with_reducible refine spec_snEvening.k ?_ _ _ _ | with_reducible refine spec_l1Least.k ?_ _ _ | with_reducible intro _ | omega
end spec_pzValue
namespace spec_pzOf
noncomputable def p (K : Nat) (a0 a1 a2 a3 : Int) : Option (Int × (Int × Int)) := PI Cx K 95 [.sv (.one (.int .i64 a0)), .sv (.one (.int .i64 a1)), .sv (.agg [.int .i64 a2, .int .i64 a3])]
noncomputable def b (g0 : Int → Int → Int → Int → Option Int) (a0 a1 a2 a3 : Int) : Option (Int × (Int × Int)) :=
 if (a0 == 0) = true then ((g0 a0 (W ((Int.tmod a1 100) + 1)) a2 a3).bind fun t0 =>
 some (a0, ((W ((Int.tmod a1 100) + 1)), t0))) else (if (a0 == 1) = true then ((g0 a0 (W ((Int.tmod a1 100) + 1)) a2 a3).bind fun t0 =>
 some (a0, ((W ((Int.tmod a1 100) + 1)), t0))) else (if (a0 == 3) = true then ((g0 a0 (W ((Int.tmod a1 8) + 2)) a2 a3).bind fun t0 =>
 some (a0, ((W ((Int.tmod a1 8) + 2)), t0))) else ((g0 a0 0 a2 a3).bind fun t0 =>
 some (a0, (0, t0)))))
noncomputable def f (a0 a1 a2 a3 : Int) : Option (Int × (Int × Int)) := b spec_pzValue.f a0 a1 a2 a3
theorem e (K : Nat) (a0 a1 a2 a3 : Int) : p (K + 1) a0 a1 a2 a3 = b (spec_pzValue.p K) a0 a1 a2 a3 := PI_at Cx (by kernel_rfl)
theorem k {K : Nat} (h : 3 ≤ K) (a0 a1 a2 a3 : Int) : Le (f a0 a1 a2 a3) (p K a0 a1 a2 a3) := by
 obtain ⟨K, rfl⟩ := pos_of_le (show 0 + 1 ≤ K by omega)
 rw [e]
 unfold f b
 repeat' first | with_reducible apply Le.bind | with_reducible apply Le.ite | with_reducible exact Le.rfl | with_reducible refine spec_pzValue.k ?_ _ _ _ _ | with_reducible intro _ | omega
end spec_pzOf
namespace spec_MakePuzzle
noncomputable def p (K : Nat) (a0 a1 a2 a3 : Int) : Option ((List (Int × (Int × Int))) × Bool) := PI Cx K 77 [.sv (.agg [.int .i64 a0, .int .i64 a1]), .sv (.one (.int .i64 a2)), .sv (.one (.int .i64 a3))]
noncomputable def q0 (K m : Nat) (x0 x1 x2 x3 : Int) (x4 : List (Int × (Int × Int))) : Option ((List (Int × (Int × Int))) × Bool) := runAt Cx K 77 [true, true, true, true, false, true] [m] ⟨[(1, .sv (.one (.int .i64 x0))), (3, .sv (.one (.ptr 0 0))), (6, .sv (.one (.ptr 1000 0))), (8, .sv (.one (.ptr 3000000 0))), (9, .sv (.one (.int .i64 x1)))], [(0, .box 31 [.int .i64 x2, .int .i64 x3]), (1000, .box 24 [.nilsl]), (3000000, .box 24 [.full 2000003000000000]), (2000003000000000, .row 48 (.pair (.int .i64) (.pair (.int .i64) (.int .i64))) x4 .own)], []⟩
noncomputable def b (L0 : Int → Int → Int → Int → List (Int × (Int × Int)) → Option ((List (Int × (Int × Int))) × Bool)) (g0 : Int → Int → Option Bool) (g1 : Int → Int → Int → Option Bool) (a0 a1 a2 a3 : Int) : Option ((List (Int × (Int × Int))) × Bool) :=
 (g0 a0 a1).bind fun t0 =>
 if (!t0) = true then (some (([] : List (Int × (Int × Int))), false)) else ((g1 a2 0 6).bind fun t1 =>
 if (!t1) = true then (some (([] : List (Int × (Int × Int))), false)) else ((g1 a3 0 9999).bind fun t2 =>
 if (!t2) = true then (some (([] : List (Int × (Int × Int))), false)) else (L0 a2 a3 a0 a1 ([] : List (Int × (Int × Int))))))
noncomputable def b0 (L0 : Int → Int → Int → Int → List (Int × (Int × Int)) → Option ((List (Int × (Int × Int))) × Bool)) (g2 : Int → Option Int) (g3 : Int → Int → Int → Int → Option (Int × (Int × Int))) (x0 x1 x2 x3 : Int) (x4 : List (Int × (Int × Int))) : Option ((List (Int × (Int × Int))) × Bool) :=
 if (decide (x0 > 0)) = true then ((g2 x1).bind fun t0 =>
 (g2 t0).bind fun t1 =>
 (g3 (Int.tmod t0 5) t1 x2 x3).bind fun t2 =>
 if ((dlenN x4) + 1) ≤ 5864062014805 then (L0 (W (x0 - 1)) t1 x2 x3 (x4 ++ [t2])) else (none)) else (some (x4, true))
noncomputable def l0 : Nat → Int → Int → Int → Int → List (Int × (Int × Int)) → Option ((List (Int × (Int × Int))) × Bool)
 | 0, _, _, _, _, _ => none
 | k + 1, x0, x1, x2, x3, x4 => b0 (l0 k) spec_pzNext.f spec_pzOf.f x0 x1 x2 x3 x4
noncomputable def f (k : Nat) (a0 a1 a2 a3 : Int) : Option ((List (Int × (Int × Int))) × Bool) := b (l0 k) spec_pzHidden.f spec_l1In.f a0 a1 a2 a3
theorem e (K : Nat) (a0 a1 a2 a3 : Int) : p (K + 1) a0 a1 a2 a3 = b (q0 K K) (spec_pzHidden.p K) (spec_l1In.p K) a0 a1 a2 a3 := PI_at Cx (by kernel_rfl)
theorem e0 (K m : Nat) (x0 x1 x2 x3 : Int) (x4 : List (Int × (Int × Int))) : q0 K (m + 1) x0 x1 x2 x3 x4 = b0 (q0 K m) (spec_pzNext.p K) (spec_pzOf.p K) x0 x1 x2 x3 x4 := by kernel_rfl
theorem kl (n : Nat) : ∀ K, n + 3 ≤ K → (∀ m, n ≤ m → ∀ (x0 x1 x2 x3 : Int) (x4 : List (Int × (Int × Int))), Le (l0 n x0 x1 x2 x3 x4) (q0 K m x0 x1 x2 x3 x4)) := by
 induction n with
 | zero => exact fun K _ => fun _ _ _ _ _ _ _ => Le.none
 | succ n ih =>
  intro K hK
  have ih := ih K (by omega)
  intro m hm x0 x1 x2 x3 x4
  obtain ⟨m, rfl⟩ := pos_of_le hm
  rw [e0]
  show Le (b0 (l0 n) spec_pzNext.f spec_pzOf.f x0 x1 x2 x3 x4) _
  unfold b0
  repeat' first | with_reducible apply Le.bind | with_reducible apply Le.ite | with_reducible exact Le.rfl | with_reducible refine ih _ ?_ _ _ _ _ _ | with_reducible refine spec_pzNext.k ?_ _ | with_reducible refine spec_pzOf.k ?_ _ _ _ _ | with_reducible intro _ | omega
theorem k {n K : Nat} (h : n + 4 ≤ K) (a0 a1 a2 a3 : Int) : Le (f n a0 a1 a2 a3) (p K a0 a1 a2 a3) := by
 obtain ⟨K, rfl⟩ := pos_of_le (show 0 + 1 ≤ K by omega)
 have kl := kl n K (by omega)
 rw [e]
 unfold f b
 repeat' first | with_reducible apply Le.bind | with_reducible apply Le.ite | with_reducible exact Le.rfl | with_reducible refine kl _ ?_ _ _ _ _ _ | with_reducible refine spec_pzHidden.k ?_ _ _ | with_reducible refine spec_l1In.k ?_ _ _ _ | with_reducible intro _ | omega
end spec_MakePuzzle
namespace spec_l1Cur_surePuzzle
noncomputable def p (K : Nat) (a0 : List Int) (a1 a2 a3 : Int) : Option ((List (Int × (Int × Int))) × ((List Int) × (Int × Int))) := PI Cx K 56 [.sv (.agg [.sl 5 (.int .u8) a0, .int .i64 a1, .int .u64 a2]), .sv (.one (.int .i64 a3))]
noncomputable def b (g0 : List Int → Int → Int → Option ((Int × Int) × ((List Int) × (Int × Int)))) (g1 : List Int → Int → Int → Int → Option (Int × ((List Int) × (Int × Int)))) (g2 : Int → Int → Int → Int → Option ((List (Int × (Int × Int))) × Bool)) (a0 : List Int) (a1 a2 a3 : Int) : Option ((List (Int × (Int × Int))) × ((List Int) × (Int × Int))) :=
 (g0 a0 a1 a2).bind fun t0 =>
 (g1 t0.2.1 t0.2.2.1 t0.2.2.2 (W (a3 + 1))).bind fun t1 =>
 (g1 t1.2.1 t1.2.2.1 t1.2.2.2 10000).bind fun t2 =>
 (g2 t0.1.1 t0.1.2 t1.1 t2.1).bind fun t3 =>
 some (t3.1, t2.2)
noncomputable def f (k : Nat) (a0 : List Int) (a1 a2 a3 : Int) : Option ((List (Int × (Int × Int))) × ((List Int) × (Int × Int))) := b spec_l1Cur_hidden.f spec_l1Cur_pick.f (spec_MakePuzzle.f k) a0 a1 a2 a3
theorem e (K : Nat) (a0 : List Int) (a1 a2 a3 : Int) : p (K + 1) a0 a1 a2 a3 = b (spec_l1Cur_hidden.p K) (spec_l1Cur_pick.p K) (spec_MakePuzzle.p K) a0 a1 a2 a3 := PI_at Cx (by kernel_rfl)
theorem k {n K : Nat} (h : n + 5 ≤ K) (a0 : List Int) (a1 a2 a3 : Int) : Le (f n a0 a1 a2 a3) (p K a0 a1 a2 a3) := by
 obtain ⟨K, rfl⟩ := pos_of_le (show 0 + 1 ≤ K by omega)
 rw [e]
 unfold f b
 repeat' first | with_reducible apply Le.bind | with_reducible apply Le.ite | with_reducible exact Le.rfl | with_reducible refine spec_l1Cur_hidden.k ?_ _ _ _ | with_reducible refine spec_l1Cur_pick.k ?_ _ _ _ _ | with_reducible refine spec_MakePuzzle.k ?_ _ _ _ _ | with_reducible intro _ | omega
end spec_l1Cur_surePuzzle
namespace spec_l1Cur_one
noncomputable def p (K : Nat) (a0 : List Int) (a1 a2 a3 : Int) : Option (Bool × ((List Int) × (Int × Int))) := PI Cx K 57 [.sv (.agg [.sl 5 (.int .u8) a0, .int .i64 a1, .int .u64 a2]), .sv (.one (.int .i64 a3))]
noncomputable def b (g0 : List Int → Int → Int → Int → Option (Int × ((List Int) × (Int × Int)))) (a0 : List Int) (a1 a2 a3 : Int) : Option (Bool × ((List Int) × (Int × Int))) :=
 (g0 a0 a1 a2 a3).bind fun t0 =>
 some ((t0.1 == 0), t0.2)
noncomputable def f (a0 : List Int) (a1 a2 a3 : Int) : Option (Bool × ((List Int) × (Int × Int))) := b spec_l1Cur_pick.f a0 a1 a2 a3
theorem e (K : Nat) (a0 : List Int) (a1 a2 a3 : Int) : p (K + 1) a0 a1 a2 a3 = b (spec_l1Cur_pick.p K) a0 a1 a2 a3 := PI_at Cx (by kernel_rfl)
theorem k {K : Nat} (h : 3 ≤ K) (a0 : List Int) (a1 a2 a3 : Int) : Le (f a0 a1 a2 a3) (p K a0 a1 a2 a3) := by
 obtain ⟨K, rfl⟩ := pos_of_le (show 0 + 1 ≤ K by omega)
 rw [e]
 unfold f b
 repeat' first | with_reducible apply Le.bind | with_reducible apply Le.ite | with_reducible exact Le.rfl | with_reducible refine spec_l1Cur_pick.k ?_ _ _ _ _ | with_reducible intro _ | omega
end spec_l1Cur_one
namespace spec_l1Cur_clue
noncomputable def p (K : Nat) (a0 : List Int) (a1 a2 : Int) : Option ((Int × (Int × Int)) × ((List Int) × (Int × Int))) := PI Cx K 92 [.sv (.agg [.sl 5 (.int .u8) a0, .int .i64 a1, .int .u64 a2])]
noncomputable def b (g0 : List Int → Int → Int → Int → Option (Int × ((List Int) × (Int × Int)))) (g1 : List Int → Int → Int → Int → Option (Bool × ((List Int) × (Int × Int)))) (a0 : List Int) (a1 a2 : Int) : Option ((Int × (Int × Int)) × ((List Int) × (Int × Int))) :=
 (g0 a0 a1 a2 5).bind fun t0 =>
 (g0 t0.2.1 t0.2.2.1 t0.2.2.2 9).bind fun t1 =>
 (g0 t1.2.1 t1.2.2.1 t1.2.2.2 12).bind fun t2 =>
 (g0 t2.2.1 t2.2.2.1 t2.2.2.2 9).bind fun t3 =>
 if (decide ((W (t0.1 + (W (Int.tdiv t1.1 8)))) < 2)) = true then ((g0 t3.2.1 t3.2.2.1 t3.2.2.2 20).bind fun t4 =>
 (g0 t4.2.1 t4.2.2.1 t4.2.2.2 9).bind fun t5 =>
 if ((W (t0.1 + (W (Int.tdiv t1.1 8)))) == 3) = true then ((g0 t5.2.1 t5.2.2.1 t5.2.2.2 10).bind fun t6 =>
 (g0 t6.2.1 t6.2.2.1 t6.2.2.2 3).bind fun t7 =>
 some (((W (t0.1 + (W (Int.tdiv t1.1 8)))), ((W (1 + t6.1)), t7.1)), t7.2)) else (some (((W (t0.1 + (W (Int.tdiv t1.1 8)))), ((W ((W (1 + t4.1)) - (W (Int.tdiv t5.1 8)))), (W (t2.1 - (W (Int.tdiv t3.1 8)))))), t5.2))) else (if ((W (t0.1 + (W (Int.tdiv t1.1 8)))) == 3) = true then ((g0 t3.2.1 t3.2.2.1 t3.2.2.2 20).bind fun t4 =>
 (g0 t4.2.1 t4.2.2.1 t4.2.2.2 9).bind fun t5 =>
 if ((W (t0.1 + (W (Int.tdiv t1.1 8)))) == 3) = true then ((g0 t5.2.1 t5.2.2.1 t5.2.2.2 10).bind fun t6 =>
 (g0 t6.2.1 t6.2.2.1 t6.2.2.2 3).bind fun t7 =>
 some (((W (t0.1 + (W (Int.tdiv t1.1 8)))), ((W (1 + t6.1)), t7.1)), t7.2)) else (some (((W (t0.1 + (W (Int.tdiv t1.1 8)))), ((W ((W (1 + t4.1)) - (W (Int.tdiv t5.1 8)))), (W (t2.1 - (W (Int.tdiv t3.1 8)))))), t5.2))) else ((g1 t3.2.1 t3.2.2.1 t3.2.2.2 10).bind fun t4 =>
 if t4.1 = true then ((g0 t4.2.1 t4.2.2.1 t4.2.2.2 20).bind fun t5 =>
 (g0 t5.2.1 t5.2.2.1 t5.2.2.2 9).bind fun t6 =>
 if ((W (t0.1 + (W (Int.tdiv t1.1 8)))) == 3) = true then ((g0 t6.2.1 t6.2.2.1 t6.2.2.2 10).bind fun t7 =>
 (g0 t7.2.1 t7.2.2.1 t7.2.2.2 3).bind fun t8 =>
 some (((W (t0.1 + (W (Int.tdiv t1.1 8)))), ((W (1 + t7.1)), t8.1)), t8.2)) else (some (((W (t0.1 + (W (Int.tdiv t1.1 8)))), ((W ((W (1 + t5.1)) - (W (Int.tdiv t6.1 8)))), (W (t2.1 - (W (Int.tdiv t3.1 8)))))), t6.2))) else (if ((W (t0.1 + (W (Int.tdiv t1.1 8)))) == 3) = true then ((g0 t4.2.1 t4.2.2.1 t4.2.2.2 10).bind fun t5 =>
 (g0 t5.2.1 t5.2.2.1 t5.2.2.2 3).bind fun t6 =>
 some (((W (t0.1 + (W (Int.tdiv t1.1 8)))), ((W (1 + t5.1)), t6.1)), t6.2)) else (some (((W (t0.1 + (W (Int.tdiv t1.1 8)))), (0, (W (t2.1 - (W (Int.tdiv t3.1 8)))))), t4.2)))))
noncomputable def f (a0 : List Int) (a1 a2 : Int) : Option ((Int × (Int × Int)) × ((List Int) × (Int × Int))) := b spec_l1Cur_pick.f spec_l1Cur_one.f a0 a1 a2
theorem e (K : Nat) (a0 : List Int) (a1 a2 : Int) : p (K + 1) a0 a1 a2 = b (spec_l1Cur_pick.p K) (spec_l1Cur_one.p K) a0 a1 a2 := PI_at Cx (by kernel_rfl)
theorem k {K : Nat} (h : 4 ≤ K) (a0 : List Int) (a1 a2 : Int) : Le (f a0 a1 a2) (p K a0 a1 a2) := by
 obtain ⟨K, rfl⟩ := pos_of_le (show 0 + 1 ≤ K by omega)
 rw [e]
 unfold f b
 repeat' first | with_reducible apply Le.bind | with_reducible apply Le.ite | with_reducible exact Le.rfl | with_reducible refine spec_l1Cur_pick.k ?_ _ _ _ _ | with_reducible refine spec_l1Cur_one.k ?_ _ _ _ _ | with_reducible intro _ | omega
end spec_l1Cur_clue
namespace spec_l1Cur_puzzle
noncomputable def p (K : Nat) (a0 : List Int) (a1 a2 : Int) : Option ((List (Int × (Int × Int))) × ((List Int) × (Int × Int))) := PI Cx K 76 [.sv (.agg [.sl 5 (.int .u8) a0, .int .i64 a1, .int .u64 a2])]
noncomputable def q0 (K m : Nat) (x0 : List Int) (x1 x2 : Int) (x3 : List (Int × (Int × Int))) : Option ((List (Int × (Int × Int))) × ((List Int) × (Int × Int))) := runAt Cx K 76 [true, true, false, true, true, true, true, true, false, true] [m] ⟨[(0, .sv (.one (.ptr 9000000000000000 0))), (2, .sv (.one (.ptr 0 0))), (3, .sv (.one (.ptr 1002000 0)))], [(9000000000000000, .box 76 [.sl 5 (.int .u8) x0, .int .i64 x1, .int .u64 x2]), (0, .box 24 [.nilsl]), (1002000, .box 24 [.full 2000001002000000]), (2000001002000000, .row 48 (.pair (.int .i64) (.pair (.int .i64) (.int .i64))) x3 .own)], []⟩
noncomputable def b (L0 : List Int → Int → Int → List (Int × (Int × Int)) → Option ((List (Int × (Int × Int))) × ((List Int) × (Int × Int)))) (g0 : List Int → Int → Int → Int → Option ((List (Int × (Int × Int))) × ((List Int) × (Int × Int)))) (g1 : List Int → Int → Int → Int → Option (Int × ((List Int) × (Int × Int)))) (g2 : List Int → Int → Int → Option ((Int × (Int × Int)) × ((List Int) × (Int × Int)))) (a0 : List Int) (a1 a2 : Int) : Option ((List (Int × (Int × Int))) × ((List Int) × (Int × Int))) :=
 (g0 a0 a1 a2 5).bind fun t0 =>
 (g1 t0.2.1 t0.2.2.1 t0.2.2.2 12).bind fun t1 =>
 if (t1.1 == 0) = true then ((g2 t1.2.1 t1.2.2.1 t1.2.2.2).bind fun t2 =>
 if ((dlenN t0.1) + 1) ≤ 5864062014805 then (some ((t0.1 ++ [t2.1]), t2.2)) else (none)) else (if (t1.1 == 1) = true then (L0 t1.2.1 t1.2.2.1 t1.2.2.2 t0.1) else (some (t0.1, t1.2)))
noncomputable def b0 (L0 : List Int → Int → Int → List (Int × (Int × Int)) → Option ((List (Int × (Int × Int))) × ((List Int) × (Int × Int)))) (g1 : List Int → Int → Int → Int → Option (Int × ((List Int) × (Int × Int)))) (x0 : List Int) (x1 x2 : Int) (x3 : List (Int × (Int × Int))) : Option ((List (Int × (Int × Int))) × ((List Int) × (Int × Int))) :=
 (g1 x0 x1 x2 2).bind fun t0 =>
 if (decide ((dlen x3) < (W (6 + t0.1)))) = true then (if ((dlenN x3) + 1) ≤ 5864062014805 then (L0 t0.2.1 t0.2.2.1 t0.2.2.2 (x3 ++ [(2, (0, 9))])) else (none)) else (some (x3, t0.2))
noncomputable def l0 : Nat → List Int → Int → Int → List (Int × (Int × Int)) → Option ((List (Int × (Int × Int))) × ((List Int) × (Int × Int)))
 | 0, _, _, _, _ => none
 | k + 1, x0, x1, x2, x3 => b0 (l0 k) spec_l1Cur_pick.f x0 x1 x2 x3
noncomputable def f (k : Nat) (a0 : List Int) (a1 a2 : Int) : Option ((List (Int × (Int × Int))) × ((List Int) × (Int × Int))) := b (l0 k) (spec_l1Cur_surePuzzle.f k) spec_l1Cur_pick.f spec_l1Cur_clue.f a0 a1 a2
theorem e (K : Nat) (a0 : List Int) (a1 a2 : Int) : p (K + 1) a0 a1 a2 = b (q0 K K) (spec_l1Cur_surePuzzle.p K) (spec_l1Cur_pick.p K) (spec_l1Cur_clue.p K) a0 a1 a2 := PI_at Cx (by kernel_rfl)
theorem e0 (K m : Nat) (x0 : List Int) (x1 x2 : Int) (x3 : List (Int × (Int × Int))) : q0 K (m + 1) x0 x1 x2 x3 = b0 (q0 K m) (spec_l1Cur_pick.p K) x0 x1 x2 x3 := by kernel_rfl
theorem kl (n : Nat) : ∀ K, n + 5 ≤ K → (∀ m, n ≤ m → ∀ (x0 : List Int) (x1 x2 : Int) (x3 : List (Int × (Int × Int))), Le (l0 n x0 x1 x2 x3) (q0 K m x0 x1 x2 x3)) := by
 induction n with
 | zero => exact fun K _ => fun _ _ _ _ _ _ => Le.none
 | succ n ih =>
  intro K hK
  have ih := ih K (by omega)
  intro m hm x0 x1 x2 x3
  obtain ⟨m, rfl⟩ := pos_of_le hm
  rw [e0]
  show Le (b0 (l0 n) spec_l1Cur_pick.f x0 x1 x2 x3) _
  unfold b0
  repeat' first | with_reducible apply Le.bind | with_reducible apply Le.ite | with_reducible exact Le.rfl | with_reducible refine ih _ ?_ _ _ _ _ | with_reducible refine spec_l1Cur_pick.k ?_ _ _ _ _ | with_reducible intro _ | omega
theorem k {n K : Nat} (h : n + 6 ≤ K) (a0 : List Int) (a1 a2 : Int) : Le (f n a0 a1 a2) (p K a0 a1 a2) := by
 obtain ⟨K, rfl⟩ := pos_of_le (show 0 + 1 ≤ K by omega)
 have kl := kl n K (by omega)
 rw [e]
 unfold f b
 repeat' first | with_reducible apply Le.bind | with_reducible apply Le.ite | with_reducible exact Le.rfl | with_reducible refine kl _ ?_ _ _ _ _ | with_reducible refine spec_l1Cur_surePuzzle.k ?_ _ _ _ _ | with_reducible refine spec_l1Cur_pick.k ?_ _ _ _ _ | with_reducible refine spec_l1Cur_clue.k ?_ _ _ _ | with_reducible intro _ | omega
end spec_l1Cur_puzzle
namespace spec_DrawIsPuzzle
noncomputable def p (K : Nat) (a0 : List Int) : Option (List (Int × (Int × Int))) := PI Cx K 55 [.sv (.one (.sl 5 (.int .u8) a0))]
noncomputable def b (g0 : List Int → Int → Int → Option ((List (Int × (Int × Int))) × ((List Int) × (Int × Int)))) (a0 : List Int) : Option (List (Int × (Int × Int))) :=
 (g0 a0 0 0).bind fun t0 =>
 some t0.1
noncomputable def f (k : Nat) (a0 : List Int) : Option (List (Int × (Int × Int))) := b (spec_l1Cur_puzzle.f k) a0
theorem e (K : Nat) (a0 : List Int) : p (K + 1) a0 = b (spec_l1Cur_puzzle.p K) a0 := PI_at Cx (by kernel_rfl)
theorem k {n K : Nat} (h : n + 7 ≤ K) (a0 : List Int) : Le (f n a0) (p K a0) := by
 obtain ⟨K, rfl⟩ := pos_of_le (show 0 + 1 ≤ K by omega)
 rw [e]
 unfold f b
 repeat' first | with_reducible apply Le.bind | with_reducible apply Le.ite | with_reducible exact Le.rfl | with_reducible refine spec_l1Cur_puzzle.k ?_ _ _ _ | with_reducible intro _ | omega
end spec_DrawIsPuzzle
namespace spec_DrawSolutions
noncomputable def p (K : Nat) (a0 : List Int) : Option (List (Int × (Int × Int))) := PI Cx K 35 [.sv (.one (.sl 5 (.int .u8) a0))]
noncomputable def b (g0 : List Int → Option (List (Int × (Int × Int)))) (a0 : List Int) : Option (List (Int × (Int × Int))) :=
 (g0 a0).bind fun t0 =>
 some t0
noncomputable def f (k : Nat) (a0 : List Int) : Option (List (Int × (Int × Int))) := b (spec_DrawIsPuzzle.f k) a0
theorem e (K : Nat) (a0 : List Int) : p (K + 1) a0 = b (spec_DrawIsPuzzle.p K) a0 := PI_at Cx (by kernel_rfl)
theorem k {n K : Nat} (h : n + 8 ≤ K) (a0 : List Int) : Le (f n a0) (p K a0) := by
 obtain ⟨K, rfl⟩ := pos_of_le (show 0 + 1 ≤ K by omega)
 rw [e]
 unfold f b
 repeat' first | with_reducible apply Le.bind | with_reducible apply Le.ite | with_reducible exact Le.rfl | with_reducible refine spec_DrawIsPuzzle.k ?_ _ | with_reducible intro _ | omega
end spec_DrawSolutions
namespace impl_within
noncomputable def p (K : Nat) (a0 a1 a2 : Int) : Option Bool := PI Cx K 49 [.sv (.one (.int .i64 a0)), .sv (.one (.int .i64 a1)), .sv (.one (.int .i64 a2))]
noncomputable def f (a0 a1 a2 : Int) : Option Bool :=
 if (decide (a0 ≥ a1)) = true then (some (decide (a0 ≤ a2))) else (some false)
theorem e (K : Nat) (a0 a1 a2 : Int) : p (K + 1) a0 a1 a2 = f a0 a1 a2 := PI_at Cx (by kernel_rfl)
theorem k {K : Nat} (h : 1 ≤ K) (a0 a1 a2 : Int) : Le (f a0 a1 a2) (p K a0 a1 a2) := by
 obtain ⟨K, rfl⟩ := pos_of_le h
 rw [e]
 exact Le.rfl
end impl_within
namespace impl_IsClue
noncomputable def p (K : Nat) (a0 a1 a2 : Int) : Option Bool := PI Cx K 48 [.sv (.agg [.int .i64 a0, .int .i64 a1, .int .i64 a2])]
noncomputable def b (g0 : Int → Int → Int → Option Bool) (a0 a1 a2 : Int) : Option Bool :=
 if (a0 == 0) = true then ((g0 a1 1 100).bind fun t0 =>
 if t0 = true then ((g0 a2 0 100).bind fun t1 =>
 some t1) else (some false)) else (if (a0 == 1) = true then ((g0 a1 1 100).bind fun t0 =>
 if t0 = true then ((g0 a2 1 100).bind fun t1 =>
 some t1) else (some false)) else (if (a0 == 2) = true then (if (a1 == 0) = true then ((g0 a2 0 24).bind fun t0 =>
 some t0) else (some false)) else (if (a0 == 3) = true then ((g0 a1 2 9).bind fun t0 =>
 if t0 = true then ((g0 a2 0 1).bind fun t1 =>
 some t1) else (some false)) else (if (a0 == 4) = true then (if (a1 == 0) = true then ((g0 a2 (-12) 12).bind fun t0 =>
 some t0) else (some false)) else (some false)))))
noncomputable def f (a0 a1 a2 : Int) : Option Bool := b impl_within.f a0 a1 a2
theorem e (K : Nat) (a0 a1 a2 : Int) : p (K + 1) a0 a1 a2 = b (impl_within.p K) a0 a1 a2 := PI_at Cx (by kernel_rfl)
theorem k {K : Nat} (h : 2 ≤ K) (a0 a1 a2 : Int) : Le (f a0 a1 a2) (p K a0 a1 a2) := by
 obtain ⟨K, rfl⟩ := pos_of_le (show 0 + 1 ≤ K by omega)
 rw [e]
 unfold f b
 repeat' first | with_reducible apply Le.bind | with_reducible apply Le.ite | with_reducible exact Le.rfl | with_reducible refine impl_within.k ?_ _ _ _ | with_reducible intro _ | omega
end impl_IsClue
namespace impl_IsPuzzle_1
noncomputable def p (K : Nat) (a0 a1 a2 : Int) : Option Bool := PI Cx K 47 [.sv (.agg [.int .i64 a0, .int .i64 a1, .int .i64 a2])]
noncomputable def b (g0 : Int → Int → Int → Option Bool) (a0 a1 a2 : Int) : Option Bool :=
 (g0 a0 a1 a2).bind fun t0 =>
 some (!t0)
noncomputable def f (a0 a1 a2 : Int) : Option Bool := b impl_IsClue.f a0 a1 a2
theorem e (K : Nat) (a0 a1 a2 : Int) : p (K + 1) a0 a1 a2 = b (impl_IsClue.p K) a0 a1 a2 := PI_at Cx (by kernel_rfl)
theorem k {K : Nat} (h : 3 ≤ K) (a0 a1 a2 : Int) : Le (f a0 a1 a2) (p K a0 a1 a2) := by
 obtain ⟨K, rfl⟩ := pos_of_le (show 0 + 1 ≤ K by omega)
 rw [e]
 unfold f b
 repeat' first | with_reducible apply Le.bind | with_reducible apply Le.ite | with_reducible exact Le.rfl | with_reducible refine impl_IsClue.k ?_ _ _ _ | with_reducible intro _ | omega
end impl_IsPuzzle_1
namespace slices_IndexFunc_impl_Clue_impl_Clue_impl_IsPuzzle_1
noncomputable def p (K : Nat) (a0 : List (Int × (Int × Int))) : Option Int := PI Cx K 70 [.sv (.one (.sl 48 (.pair (.int .i64) (.pair (.int .i64) (.int .i64))) a0)), .sv (.one (.fn 47 []))]
noncomputable def q0 (K m : Nat) (x0 : List (Int × (Int × Int))) (x1 x2 : Int) : Option Int := runAt Cx K 70 [true, false, true, true] [m] ⟨[(0, .sv (.one (.sl 48 (.pair (.int .i64) (.pair (.int .i64) (.int .i64))) x0))), (1, .sv (.one (.fn 47 []))), (7, .sv (.one (.int .i64 x1))), (8, .sv (.one (.int .i64 x2)))], [], []⟩
noncomputable def b (L0 : List (Int × (Int × Int)) → Int → Int → Option Int) (a0 : List (Int × (Int × Int))) : Option Int :=
 L0 a0 (dlen a0) 0
noncomputable def b0 (L0 : List (Int × (Int × Int)) → Int → Int → Option Int) (g0 : Int → Int → Int → Option Bool) (x0 : List (Int × (Int × Int))) (x1 x2 : Int) : Option Int :=
 if (decide (x2 < x1)) = true then (if 0 ≤ x2 then (if x2 < (dlen x0) then ((g0 (rd (0, (0, 0)) x0 x2).1 (rd (0, (0, 0)) x0 x2).2.1 (rd (0, (0, 0)) x0 x2).2.2).bind fun t0 =>
 if t0 = true then (some x2) else (L0 x0 x1 (W (x2 + 1)))) else (none)) else (none)) else (some (-1))
noncomputable def l0 : Nat → List (Int × (Int × Int)) → Int → Int → Option Int
 | 0, _, _, _ => none
 | k + 1, x0, x1, x2 => b0 (l0 k) impl_IsPuzzle_1.f x0 x1 x2
noncomputable def f (k : Nat) (a0 : List (Int × (Int × Int))) : Option Int := b (l0 k) a0
theorem e (K : Nat) (a0 : List (Int × (Int × Int))) : p (K + 1) a0 = b (q0 K K) a0 := PI_at Cx (by kernel_rfl)
theorem e0 (K m : Nat) (x0 : List (Int × (Int × Int))) (x1 x2 : Int) : q0 K (m + 1) x0 x1 x2 = b0 (q0 K m) (impl_IsPuzzle_1.p K) x0 x1 x2 := by kernel_rfl
theorem kl (n : Nat) : ∀ K, n + 3 ≤ K → (∀ m, n ≤ m → ∀ (x0 : List (Int × (Int × Int))) (x1 x2 : Int), Le (l0 n x0 x1 x2) (q0 K m x0 x1 x2)) := by
 induction n with
 | zero => exact fun K _ => fun _ _ _ _ _ => Le.none
 | succ n ih =>
  intro K hK
  have ih := ih K (by omega)
  intro m hm x0 x1 x2
  obtain ⟨m, rfl⟩ := pos_of_le hm
  rw [e0]
  show Le (b0 (l0 n) impl_IsPuzzle_1.f x0 x1 x2) _
  unfold b0
  repeat' first | with_reducible apply Le.bind | with_reducible apply Le.ite | with_reducible exact Le.rfl | with_reducible refine ih _ ?_ _ _ _ | with_reducible refine impl_IsPuzzle_1.k ?_ _ _ _ | with_reducible intro _ | omega
theorem k {n K : Nat} (h : n + 4 ≤ K) (a0 : List (Int × (Int × Int))) : Le (f n a0) (p K a0) := by
 obtain ⟨K, rfl⟩ := pos_of_le (show 0 + 1 ≤ K by omega)
 have kl := kl n K (by omega)
 rw [e]
 unfold f b
 repeat' first | with_reducible apply Le.bind | with_reducible apply Le.ite | with_reducible exact Le.rfl | with_reducible refine kl _ ?_ _ _ _ | with_reducible intro _ | omega
end slices_IndexFunc_impl_Clue_impl_Clue_impl_IsPuzzle_1
namespace slices_ContainsFunc_impl_Clue_impl_Clue_impl_IsPuzzle_1
noncomputable def p (K : Nat) (a0 : List (Int × (Int × Int))) : Option Bool := PI Cx K 46 [.sv (.one (.sl 48 (.pair (.int .i64) (.pair (.int .i64) (.int .i64))) a0)), .sv (.one (.fn 47 []))]
noncomputable def b (g0 : List (Int × (Int × Int)) → Option Int) (a0 : List (Int × (Int × Int))) : Option Bool :=
 (g0 a0).bind fun t0 =>
 some (decide (t0 ≥ 0))
noncomputable def f (k : Nat) (a0 : List (Int × (Int × Int))) : Option Bool := b (slices_IndexFunc_impl_Clue_impl_Clue_impl_IsPuzzle_1.f k) a0
theorem e (K : Nat) (a0 : List (Int × (Int × Int))) : p (K + 1) a0 = b (slices_IndexFunc_impl_Clue_impl_Clue_impl_IsPuzzle_1.p K) a0 := PI_at Cx (by kernel_rfl)
theorem k {n K : Nat} (h : n + 5 ≤ K) (a0 : List (Int × (Int × Int))) : Le (f n a0) (p K a0) := by
 obtain ⟨K, rfl⟩ := pos_of_le (show 0 + 1 ≤ K by omega)
 rw [e]
 unfold f b
 repeat' first | with_reducible apply Le.bind | with_reducible apply Le.ite | with_reducible exact Le.rfl | with_reducible refine slices_IndexFunc_impl_Clue_impl_Clue_impl_IsPuzzle_1.k ?_ _ | with_reducible intro _ | omega
end slices_ContainsFunc_impl_Clue_impl_Clue_impl_IsPuzzle_1
namespace impl_IsPuzzle
noncomputable def p (K : Nat) (a0 : List (Int × (Int × Int))) : Option Bool := PI Cx K 25 [.sv (.agg [.sl 48 (.pair (.int .i64) (.pair (.int .i64) (.int .i64))) a0])]
noncomputable def b (g0 : List (Int × (Int × Int)) → Option Bool) (a0 : List (Int × (Int × Int))) : Option Bool :=
 if (decide ((dlen a0) ≤ 6)) = true then ((g0 a0).bind fun t0 =>
 some (!t0)) else (some false)
noncomputable def f (k : Nat) (a0 : List (Int × (Int × Int))) : Option Bool := b (slices_ContainsFunc_impl_Clue_impl_Clue_impl_IsPuzzle_1.f k) a0
theorem e (K : Nat) (a0 : List (Int × (Int × Int))) : p (K + 1) a0 = b (slices_ContainsFunc_impl_Clue_impl_Clue_impl_IsPuzzle_1.p K) a0 := PI_at Cx (by kernel_rfl)
theorem k {n K : Nat} (h : n + 6 ≤ K) (a0 : List (Int × (Int × Int))) : Le (f n a0) (p K a0) := by
 obtain ⟨K, rfl⟩ := pos_of_le (show 0 + 1 ≤ K by omega)
 rw [e]
 unfold f b
 repeat' first | with_reducible apply Le.bind | with_reducible apply Le.ite | with_reducible exact Le.rfl | with_reducible refine slices_ContainsFunc_impl_Clue_impl_Clue_impl_IsPuzzle_1.k ?_ _ | with_reducible intro _ | omega
end impl_IsPuzzle
namespace impl_dayOfHeight
noncomputable def p (K : Nat) (a0 a1 a2 : Int) : Option Int := PI Cx K 86 [.sv (.agg [.int .i64 a0, .int .i64 a1]), .sv (.one (.int .i64 a2))]
noncomputable def f (a0 a1 a2 : Int) : Option Int :=
 if (decide (a2 ≤ a0)) = true then (some 1) else (if (decide (a0 ≤ a1)) = true then (some 0) else (if (W (a0 - a1)) = 0 then (none) else (some (W (1 + (W (Int.tdiv (W ((W ((W (a2 - a0)) + (W (a0 - a1)))) - 1)) (W (a0 - a1)))))))))
theorem e (K : Nat) (a0 a1 a2 : Int) : p (K + 1) a0 a1 a2 = f a0 a1 a2 := PI_at Cx (by kernel_rfl)
theorem k {K : Nat} (h : 1 ≤ K) (a0 a1 a2 : Int) : Le (f a0 a1 a2) (p K a0 a1 a2) := by
 obtain ⟨K, rfl⟩ := pos_of_le h
 rw [e]
 exact Le.rfl
end impl_dayOfHeight
namespace impl_reachOf
noncomputable def p (K : Nat) (a0 a1 a2 : Int) : Option Int := PI Cx K 104 [.sv (.agg [.int .i64 a0, .int .i64 a1]), .sv (.one (.int .i64 a2))]
noncomputable def f (a0 a1 a2 : Int) : Option Int :=
 some (W (a0 + (W ((mx 0 (W (a0 - a1))) * (W (a2 - 1))))))
theorem e (K : Nat) (a0 a1 a2 : Int) : p (K + 1) a0 a1 a2 = f a0 a1 a2 := PI_at Cx (by kernel_rfl)
theorem k {K : Nat} (h : 1 ≤ K) (a0 a1 a2 : Int) : Le (f a0 a1 a2) (p K a0 a1 a2) := by
 obtain ⟨K, rfl⟩ := pos_of_le h
 rw [e]
 exact Le.rfl
end impl_reachOf
namespace impl_eveningHeight
noncomputable def p (K : Nat) (a0 a1 a2 a3 : Int) : Option Int := PI Cx K 87 [.sv (.agg [.int .i64 a0, .int .i64 a1]), .sv (.one (.int .i64 a2)), .sv (.one (.int .i64 a3))]
noncomputable def b (g0 : Int → Int → Int → Option Int) (a0 a1 a2 a3 : Int) : Option Int :=
 (g0 a0 a1 a3).bind fun t0 =>
 some (mn a2 t0)
noncomputable def f (a0 a1 a2 a3 : Int) : Option Int := b impl_reachOf.f a0 a1 a2 a3
theorem e (K : Nat) (a0 a1 a2 a3 : Int) : p (K + 1) a0 a1 a2 a3 = b (impl_reachOf.p K) a0 a1 a2 a3 := PI_at Cx (by kernel_rfl)
theorem k {K : Nat} (h : 2 ≤ K) (a0 a1 a2 a3 : Int) : Le (f a0 a1 a2 a3) (p K a0 a1 a2 a3) := by
 obtain ⟨K, rfl⟩ := pos_of_le (show 0 + 1 ≤ K by omega)
 rw [e]
 unfold f b
 repeat' first | with_reducible apply Le.bind | with_reducible apply Le.ite | with_reducible exact Le.rfl | with_reducible refine impl_reachOf.k ?_ _ _ _ | with_reducible intro _ | omega
end impl_eveningHeight
namespace impl_toldBy
noncomputable def p (K : Nat) (a0 a1 a2 a3 a4 : Int) : Option Int := PI Cx K 71 [.sv (.agg [.int .i64 a0, .int .i64 a1, .int .i64 a2]), .sv (.agg [.int .i64 a3, .int .i64 a4])]
noncomputable def b (g0 : Int → Int → Int → Option Int) (g1 : Int → Int → Int → Int → Option Int) (a0 a1 a2 a3 a4 : Int) : Option Int :=
 if (a0 == 0) = true then ((g0 a3 a4 a1).bind fun t0 =>
 some t0) else (if (a0 == 1) = true then ((g1 a3 a4 100 a1).bind fun t0 =>
 some t0) else (if (a0 == 2) = true then (some (W (a3 + a4))) else (if (a0 == 3) = true then (if a1 = 0 then (none) else (if ((Int.tmod a3 a1) == 0) = true then (some 1) else (some 0))) else (some (W (a3 - a4))))))
noncomputable def f (a0 a1 a2 a3 a4 : Int) : Option Int := b impl_dayOfHeight.f impl_eveningHeight.f a0 a1 a2 a3 a4
theorem e (K : Nat) (a0 a1 a2 a3 a4 : Int) : p (K + 1) a0 a1 a2 a3 a4 = b (impl_dayOfHeight.p K) (impl_eveningHeight.p K) a0 a1 a2 a3 a4 := PI_at Cx (by kernel_rfl)
theorem k {K : Nat} (h : 3 ≤ K) (a0 a1 a2 a3 a4 : Int) : Le (f a0 a1 a2 a3 a4) (p K a0 a1 a2 a3 a4) := by
 obtain ⟨K, rfl⟩ := pos_of_le (show 0 + 1 ≤ K by omega)
 rw [e]
 unfold f b
 repeat' first | with_reducible apply Le.bind | with_reducible apply Le.ite | with_reducible exact Le.rfl | with_reducible refine impl_dayOfHeight.k ?_ _ _ _ | with_reducible refine impl_eveningHeight.k ?_ _ _ _ _ | with_reducible intro _ | omega
end impl_toldBy
namespace impl_doesFit
noncomputable def p (K : Nat) (a0 a1 a2 a3 a4 : Int) : Option Bool := PI Cx K 51 [.sv (.agg [.int .i64 a0, .int .i64 a1, .int .i64 a2]), .sv (.agg [.int .i64 a3, .int .i64 a4])]
noncomputable def b (g0 : Int → Int → Int → Int → Int → Option Int) (a0 a1 a2 a3 a4 : Int) : Option Bool :=
 (g0 a0 a1 a2 a3 a4).bind fun t0 =>
 some (t0 == a2)
noncomputable def f (a0 a1 a2 a3 a4 : Int) : Option Bool := b impl_toldBy.f a0 a1 a2 a3 a4
theorem e (K : Nat) (a0 a1 a2 a3 a4 : Int) : p (K + 1) a0 a1 a2 a3 a4 = b (impl_toldBy.p K) a0 a1 a2 a3 a4 := PI_at Cx (by kernel_rfl)
theorem k {K : Nat} (h : 4 ≤ K) (a0 a1 a2 a3 a4 : Int) : Le (f a0 a1 a2 a3 a4) (p K a0 a1 a2 a3 a4) := by
 obtain ⟨K, rfl⟩ := pos_of_le (show 0 + 1 ≤ K by omega)
 rw [e]
 unfold f b
 repeat' first | with_reducible apply Le.bind | with_reducible apply Le.ite | with_reducible exact Le.rfl | with_reducible refine impl_toldBy.k ?_ _ _ _ _ _ | with_reducible intro _ | omega
end impl_doesFit
namespace impl_solutions_1
noncomputable def p (K : Nat) (a0 a1 a2 a3 a4 : Int) : Option Bool := PI Cx K 59 [.sv (.agg [.int .i64 a0, .int .i64 a1, .int .i64 a2]), .sv (.one (.rptr [.int .i64 a3, .int .i64 a4] 0))]
noncomputable def b (g0 : Int → Int → Int → Int → Int → Option Bool) (a0 a1 a2 a3 a4 : Int) : Option Bool :=
 (g0 a0 a1 a2 a3 a4).bind fun t0 =>
 some (!t0)
noncomputable def f (a0 a1 a2 a3 a4 : Int) : Option Bool := b impl_doesFit.f a0 a1 a2 a3 a4
theorem e (K : Nat) (a0 a1 a2 a3 a4 : Int) : p (K + 1) a0 a1 a2 a3 a4 = b (impl_doesFit.p K) a0 a1 a2 a3 a4 := PI_at Cx (by kernel_rfl)
theorem k {K : Nat} (h : 5 ≤ K) (a0 a1 a2 a3 a4 : Int) : Le (f a0 a1 a2 a3 a4) (p K a0 a1 a2 a3 a4) := by
 obtain ⟨K, rfl⟩ := pos_of_le (show 0 + 1 ≤ K by omega)
 rw [e]
 unfold f b
 repeat' first | with_reducible apply Le.bind | with_reducible apply Le.ite | with_reducible exact Le.rfl | with_reducible refine impl_doesFit.k ?_ _ _ _ _ _ | with_reducible intro _ | omega
end impl_solutions_1
namespace slices_IndexFunc_impl_Clue_impl_Clue_impl_solutions_1
noncomputable def p (K : Nat) (a0 : List (Int × (Int × Int))) (a1 a2 : Int) : Option Int := PI Cx K 70 [.sv (.one (.sl 48 (.pair (.int .i64) (.pair (.int .i64) (.int .i64))) a0)), .sv (.one (.fn 59 [.rptr [.int .i64 a1, .int .i64 a2] 0]))]
noncomputable def q0 (K m : Nat) (x0 : List (Int × (Int × Int))) (x1 x2 x3 x4 : Int) : Option Int := runAt Cx K 70 [true, false, true, true] [m] ⟨[(0, .sv (.one (.sl 48 (.pair (.int .i64) (.pair (.int .i64) (.int .i64))) x0))), (1, .sv (.one (.fn 59 [.rptr [.int .i64 x1, .int .i64 x2] 0]))), (7, .sv (.one (.int .i64 x3))), (8, .sv (.one (.int .i64 x4)))], [], []⟩
noncomputable def b (L0 : List (Int × (Int × Int)) → Int → Int → Int → Int → Option Int) (a0 : List (Int × (Int × Int))) (a1 a2 : Int) : Option Int :=
 L0 a0 a1 a2 (dlen a0) 0
noncomputable def b0 (L0 : List (Int × (Int × Int)) → Int → Int → Int → Int → Option Int) (g0 : Int → Int → Int → Int → Int → Option Bool) (x0 : List (Int × (Int × Int))) (x1 x2 x3 x4 : Int) : Option Int :=
 if (decide (x4 < x3)) = true then (if 0 ≤ x4 then (if x4 < (dlen x0) then ((g0 (rd (0, (0, 0)) x0 x4).1 (rd (0, (0, 0)) x0 x4).2.1 (rd (0, (0, 0)) x0 x4).2.2 x1 x2).bind fun t0 =>
 if t0 = true then (some x4) else (L0 x0 x1 x2 x3 (W (x4 + 1)))) else (none)) else (none)) else (some (-1))
noncomputable def l0 : Nat → List (Int × (Int × Int)) → Int → Int → Int → Int → Option Int
 | 0, _, _, _, _, _ => none
 | k + 1, x0, x1, x2, x3, x4 => b0 (l0 k) impl_solutions_1.f x0 x1 x2 x3 x4
noncomputable def f (k : Nat) (a0 : List (Int × (Int × Int))) (a1 a2 : Int) : Option Int := b (l0 k) a0 a1 a2
theorem e (K : Nat) (a0 : List (Int × (Int × Int))) (a1 a2 : Int) : p (K + 1) a0 a1 a2 = b (q0 K K) a0 a1 a2 := PI_at Cx (by kernel_rfl)
theorem e0 (K m : Nat) (x0 : List (Int × (Int × Int))) (x1 x2 x3 x4 : Int) : q0 K (m + 1) x0 x1 x2 x3 x4 = b0 (q0 K m) (impl_solutions_1.p K) x0 x1 x2 x3 x4 := by kernel_rfl
theorem kl (n : Nat) : ∀ K, n + 5 ≤ K → (∀ m, n ≤ m → ∀ (x0 : List (Int × (Int × Int))) (x1 x2 x3 x4 : Int), Le (l0 n x0 x1 x2 x3 x4) (q0 K m x0 x1 x2 x3 x4)) := by
 induction n with
 | zero => exact fun K _ => fun _ _ _ _ _ _ _ => Le.none
 | succ n ih =>
  intro K hK
  have ih := ih K (by omega)
  intro m hm x0 x1 x2 x3 x4
  obtain ⟨m, rfl⟩ := pos_of_le hm
  rw [e0]
  show Le (b0 (l0 n) impl_solutions_1.f x0 x1 x2 x3 x4) _
  unfold b0
  repeat' first | with_reducible apply Le.bind | with_reducible apply Le.ite | with_reducible exact Le.rfl | with_reducible refine ih _ ?_ _ _ _ _ _ | with_reducible refine impl_solutions_1.k ?_ _ _ _ _ _ | with_reducible intro _ | omega
theorem k {n K : Nat} (h : n + 6 ≤ K) (a0 : List (Int × (Int × Int))) (a1 a2 : Int) : Le (f n a0 a1 a2) (p K a0 a1 a2) := by
 obtain ⟨K, rfl⟩ := pos_of_le (show 0 + 1 ≤ K by omega)
 have kl := kl n K (by omega)
 rw [e]
 unfold f b
 repeat' first | with_reducible apply Le.bind | with_reducible apply Le.ite | with_reducible exact Le.rfl | with_reducible refine kl _ ?_ _ _ _ _ _ | with_reducible intro _ | omega
end slices_IndexFunc_impl_Clue_impl_Clue_impl_solutions_1
namespace slices_ContainsFunc_impl_Clue_impl_Clue_impl_solutions_1
noncomputable def p (K : Nat) (a0 : List (Int × (Int × Int))) (a1 a2 : Int) : Option Bool := PI Cx K 46 [.sv (.one (.sl 48 (.pair (.int .i64) (.pair (.int .i64) (.int .i64))) a0)), .sv (.one (.fn 59 [.rptr [.int .i64 a1, .int .i64 a2] 0]))]
noncomputable def b (g0 : List (Int × (Int × Int)) → Int → Int → Option Int) (a0 : List (Int × (Int × Int))) (a1 a2 : Int) : Option Bool :=
 (g0 a0 a1 a2).bind fun t0 =>
 some (decide (t0 ≥ 0))
noncomputable def f (k : Nat) (a0 : List (Int × (Int × Int))) (a1 a2 : Int) : Option Bool := b (slices_IndexFunc_impl_Clue_impl_Clue_impl_solutions_1.f k) a0 a1 a2
theorem e (K : Nat) (a0 : List (Int × (Int × Int))) (a1 a2 : Int) : p (K + 1) a0 a1 a2 = b (slices_IndexFunc_impl_Clue_impl_Clue_impl_solutions_1.p K) a0 a1 a2 := PI_at Cx (by kernel_rfl)
theorem k {n K : Nat} (h : n + 7 ≤ K) (a0 : List (Int × (Int × Int))) (a1 a2 : Int) : Le (f n a0 a1 a2) (p K a0 a1 a2) := by
 obtain ⟨K, rfl⟩ := pos_of_le (show 0 + 1 ≤ K by omega)
 rw [e]
 unfold f b
 repeat' first | with_reducible apply Le.bind | with_reducible apply Le.ite | with_reducible exact Le.rfl | with_reducible refine slices_IndexFunc_impl_Clue_impl_Clue_impl_solutions_1.k ?_ _ _ _ | with_reducible intro _ | omega
end slices_ContainsFunc_impl_Clue_impl_Clue_impl_solutions_1
namespace impl_solutions
noncomputable def p (K : Nat) (a0 : List (Int × (Int × Int))) : Option (List (Int × Int)) := PI Cx K 37 [.sv (.one (.sl 48 (.pair (.int .i64) (.pair (.int .i64) (.int .i64))) a0))]
noncomputable def q0 (K m : Nat) (x0 : List (Int × (Int × Int))) (x1 : Int) (x2 : List (Int × Int)) : Option (List (Int × Int)) := runAt Cx K 37 [true, true, false, true, true] [m] ⟨[(0, .sv (.one (.sl 48 (.pair (.int .i64) (.pair (.int .i64) (.int .i64))) x0))), (3, .sv (.one (.full 1000000003000))), (4, .sv (.one (.int .i64 x1)))], [(1000000003000, .row 31 (.pair (.int .i64) (.int .i64)) x2 .own)], []⟩
noncomputable def q1 (K m0 m : Nat) (x0 : List (Int × (Int × Int))) (x1 x2 : Int) (x3 : List (Int × Int)) : Option (List (Int × Int)) := runAt Cx K 37 [true, true, false, true, true, true, true, false, true, true, true] [m0, m] ⟨[(0, .sv (.one (.sl 48 (.pair (.int .i64) (.pair (.int .i64) (.int .i64))) x0))), (3, .sv (.one (.full 1000000003000))), (4, .sv (.one (.int .i64 x1))), (11, .sv (.one (.int .i64 x2)))], [(1000000003000, .row 31 (.pair (.int .i64) (.int .i64)) x3 .own)], []⟩
noncomputable def b (L0 : List (Int × (Int × Int)) → Int → List (Int × Int) → Option (List (Int × Int))) (a0 : List (Int × (Int × Int))) : Option (List (Int × Int)) :=
 L0 a0 1 ([] : List (Int × Int))
noncomputable def b0 (L1 : List (Int × (Int × Int)) → Int → Int → List (Int × Int) → Option (List (Int × Int))) (x0 : List (Int × (Int × Int))) (x1 : Int) (x2 : List (Int × Int)) : Option (List (Int × Int)) :=
 if (decide (x1 ≤ 12)) = true then (L1 x0 x1 0 x2) else (some x2)
noncomputable def b1 (L1 : List (Int × (Int × Int)) → Int → Int → List (Int × Int) → Option (List (Int × Int))) (L0 : List (Int × (Int × Int)) → Int → List (Int × Int) → Option (List (Int × Int))) (g0 : List (Int × (Int × Int)) → Int → Int → Option Bool) (x0 : List (Int × (Int × Int))) (x1 x2 : Int) (x3 : List (Int × Int)) : Option (List (Int × Int)) :=
 if (decide (x2 < 13)) = true then ((g0 x0 x1 x2).bind fun t0 =>
 if (!t0) = true then (if ((dlenN x3) + 1) ≤ 8796093022208 then (L1 x0 x1 (W (x2 + 1)) (x3 ++ [(x1, x2)])) else (none)) else (L1 x0 x1 (W (x2 + 1)) x3)) else (L0 x0 (W (x1 + 1)) x3)
mutual
noncomputable def l0 : Nat → List (Int × (Int × Int)) → Int → List (Int × Int) → Option (List (Int × Int))
 | 0, _, _, _ => none
 | k + 1, x0, x1, x2 => b0 (l1 k) x0 x1 x2
noncomputable def l1 : Nat → List (Int × (Int × Int)) → Int → Int → List (Int × Int) → Option (List (Int × Int))
 | 0, _, _, _, _ => none
 | k + 1, x0, x1, x2, x3 => b1 (l1 k) (l0 k) (slices_ContainsFunc_impl_Clue_impl_Clue_impl_solutions_1.f k) x0 x1 x2 x3
end
noncomputable def f (k : Nat) (a0 : List (Int × (Int × Int))) : Option (List (Int × Int)) := b (l0 k) a0
theorem e (K : Nat) (a0 : List (Int × (Int × Int))) : p (K + 1) a0 = b (q0 K K) a0 := PI_at Cx (by kernel_rfl)
theorem e0 (K m : Nat) (x0 : List (Int × (Int × Int))) (x1 : Int) (x2 : List (Int × Int)) : q0 K (m + 1) x0 x1 x2 = b0 (q1 K m K) x0 x1 x2 := by kernel_rfl
theorem e1 (K m0 m : Nat) (x0 : List (Int × (Int × Int))) (x1 x2 : Int) (x3 : List (Int × Int)) : q1 K m0 (m + 1) x0 x1 x2 x3 = b1 (q1 K m0 m) (q0 K m0) (slices_ContainsFunc_impl_Clue_impl_Clue_impl_solutions_1.p K) x0 x1 x2 x3 := by kernel_rfl
theorem kl (n : Nat) : ∀ K, n + 7 ≤ K → (∀ m, n ≤ m → ∀ (x0 : List (Int × (Int × Int))) (x1 : Int) (x2 : List (Int × Int)), Le (l0 n x0 x1 x2) (q0 K m x0 x1 x2)) ∧ (∀ m0, n ≤ m0 → ∀ m, n ≤ m → ∀ (x0 : List (Int × (Int × Int))) (x1 x2 : Int) (x3 : List (Int × Int)), Le (l1 n x0 x1 x2 x3) (q1 K m0 m x0 x1 x2 x3)) := by
 induction n with
 | zero => exact fun K _ => ⟨fun _ _ _ _ _ => Le.none, fun _ _ _ _ _ _ _ _ => Le.none⟩
 | succ n ih =>
  intro K hK
  have ih := ih K (by omega)
  refine ⟨?_, ?_⟩
  · intro m hm x0 x1 x2
    obtain ⟨m, rfl⟩ := pos_of_le hm
    rw [e0]
    show Le (b0 (l1 n) x0 x1 x2) _
    unfold b0
    repeat' first | with_reducible apply Le.bind | with_reducible apply Le.ite | with_reducible exact Le.rfl | with_reducible refine ih.1 _ ?_ _ _ _ | with_reducible refine ih.2 _ ?_ _ ?_ _ _ _ _ | with_reducible intro _ | omega
  · intro m0 h0 m hm x0 x1 x2 x3
    obtain ⟨m, rfl⟩ := pos_of_le hm
    rw [e1]
    show Le (b1 (l1 n) (l0 n) (slices_ContainsFunc_impl_Clue_impl_Clue_impl_solutions_1.f n) x0 x1 x2 x3) _
    unfold b1
    repeat' first | with_reducible apply Le.bind | with_reducible apply Le.ite | with_reducible exact Le.rfl | with_reducible refine ih.1 _ ?_ _ _ _ | with_reducible refine ih.2 _ ?_ _ ?_ _ _ _ _ | with_reducible refine slices_ContainsFunc_impl_Clue_impl_Clue_impl_solutions_1.k ?_ _ _ _ | with_reducible intro _ | omega
theorem k {n K : Nat} (h : n + 8 ≤ K) (a0 : List (Int × (Int × Int))) : Le (f n a0) (p K a0) := by
 obtain ⟨K, rfl⟩ := pos_of_le (show 0 + 1 ≤ K by omega)
 have kl := kl n K (by omega)
 rw [e]
 unfold f b
 repeat' first | with_reducible apply Le.bind | with_reducible apply Le.ite | with_reducible exact Le.rfl | with_reducible refine kl.1 _ ?_ _ _ _ | with_reducible refine kl.2 _ ?_ _ ?_ _ _ _ _ | with_reducible intro _ | omega
end impl_solutions
namespace impl_Solutions
noncomputable def p (K : Nat) (a0 : List (Int × (Int × Int))) : Option ((List (Int × Int)) × Bool) := PI Cx K 5 [.sv (.agg [.sl 48 (.pair (.int .i64) (.pair (.int .i64) (.int .i64))) a0])]
noncomputable def b (g0 : List (Int × (Int × Int)) → Option Bool) (g1 : List (Int × (Int × Int)) → Option (List (Int × Int))) (a0 : List (Int × (Int × Int))) : Option ((List (Int × Int)) × Bool) :=
 (g0 a0).bind fun t0 =>
 if (!t0) = true then (some (([] : List (Int × Int)), false)) else ((g1 a0).bind fun t1 =>
 some (t1, true))
noncomputable def f (k : Nat) (a0 : List (Int × (Int × Int))) : Option ((List (Int × Int)) × Bool) := b (impl_IsPuzzle.f k) (impl_solutions.f k) a0
theorem e (K : Nat) (a0 : List (Int × (Int × Int))) : p (K + 1) a0 = b (impl_IsPuzzle.p K) (impl_solutions.p K) a0 := PI_at Cx (by kernel_rfl)
theorem k {n K : Nat} (h : n + 9 ≤ K) (a0 : List (Int × (Int × Int))) : Le (f n a0) (p K a0) := by
 obtain ⟨K, rfl⟩ := pos_of_le (show 0 + 1 ≤ K by omega)
 rw [e]
 unfold f b
 repeat' first | with_reducible apply Le.bind | with_reducible apply Le.ite | with_reducible exact Le.rfl | with_reducible refine impl_IsPuzzle.k ?_ _ | with_reducible refine impl_solutions.k ?_ _ | with_reducible intro _ | omega
end impl_Solutions
namespace spec_pzClue
noncomputable def p (K : Nat) (a0 a1 a2 : Int) : Option Bool := PI Cx K 60 [.sv (.agg [.int .i64 a0, .int .i64 a1, .int .i64 a2])]
noncomputable def b (g0 : Int → Int → Int → Option Bool) (a0 a1 a2 : Int) : Option Bool :=
 if (a0 == 0) = true then ((g0 a1 1 100).bind fun t0 =>
 if t0 = true then ((g0 a2 0 100).bind fun t1 =>
 some t1) else (some false)) else (if (a0 == 1) = true then ((g0 a1 1 100).bind fun t0 =>
 if t0 = true then ((g0 a2 1 100).bind fun t1 =>
 some t1) else (some false)) else (if (a0 == 2) = true then (if (a1 == 0) = true then ((g0 a2 0 24).bind fun t0 =>
 some t0) else (some false)) else (if (a0 == 3) = true then ((g0 a1 2 9).bind fun t0 =>
 if t0 = true then ((g0 a2 0 1).bind fun t1 =>
 some t1) else (some false)) else (if (a0 == 4) = true then (if (a1 == 0) = true then ((g0 a2 (-12) 12).bind fun t0 =>
 some t0) else (some false)) else (some false)))))
noncomputable def f (a0 a1 a2 : Int) : Option Bool := b spec_l1In.f a0 a1 a2
theorem e (K : Nat) (a0 a1 a2 : Int) : p (K + 1) a0 a1 a2 = b (spec_l1In.p K) a0 a1 a2 := PI_at Cx (by kernel_rfl)
theorem k {K : Nat} (h : 2 ≤ K) (a0 a1 a2 : Int) : Le (f a0 a1 a2) (p K a0 a1 a2) := by
 obtain ⟨K, rfl⟩ := pos_of_le (show 0 + 1 ≤ K by omega)
 rw [e]
 unfold f b
 repeat' first | with_reducible apply Le.bind | with_reducible apply Le.ite | with_reducible exact Le.rfl | with_reducible refine spec_l1In.k ?_ _ _ _ | with_reducible intro _ | omega
end spec_pzClue
namespace spec_pzGood
noncomputable def p (K : Nat) (a0 : List (Int × (Int × Int))) : Option Bool := PI Cx K 38 [.sv (.agg [.sl 48 (.pair (.int .i64) (.pair (.int .i64) (.int .i64))) a0])]
noncomputable def q0 (K m : Nat) (x0 : List (Int × (Int × Int))) (x1 x2 : Int) : Option Bool := runAt Cx K 38 [true, true, false, true, true] [m] ⟨[(10, .sv (.one (.sl 48 (.pair (.int .i64) (.pair (.int .i64) (.int .i64))) x0))), (11, .sv (.one (.int .i64 x1))), (12, .sv (.one (.int .i64 x2)))], [], []⟩
noncomputable def b (L0 : List (Int × (Int × Int)) → Int → Int → Option Bool) (a0 : List (Int × (Int × Int))) : Option Bool :=
 if (decide ((dlen a0) > 6)) = true then (some false) else (L0 a0 (dlen a0) 0)
noncomputable def b0 (L0 : List (Int × (Int × Int)) → Int → Int → Option Bool) (g0 : Int → Int → Int → Option Bool) (x0 : List (Int × (Int × Int))) (x1 x2 : Int) : Option Bool :=
 if (decide (x2 < x1)) = true then (if 0 ≤ x2 then (if x2 < (dlen x0) then ((g0 (rd (0, (0, 0)) x0 x2).1 (rd (0, (0, 0)) x0 x2).2.1 (rd (0, (0, 0)) x0 x2).2.2).bind fun t0 =>
 if (!t0) = true then (some false) else (L0 x0 x1 (W (x2 + 1)))) else (none)) else (none)) else (some true)
noncomputable def l0 : Nat → List (Int × (Int × Int)) → Int → Int → Option Bool
 | 0, _, _, _ => none
 | k + 1, x0, x1, x2 => b0 (l0 k) spec_pzClue.f x0 x1 x2
noncomputable def f (k : Nat) (a0 : List (Int × (Int × Int))) : Option Bool := b (l0 k) a0
theorem e (K : Nat) (a0 : List (Int × (Int × Int))) : p (K + 1) a0 = b (q0 K K) a0 := PI_at Cx (by kernel_rfl)
theorem e0 (K m : Nat) (x0 : List (Int × (Int × Int))) (x1 x2 : Int) : q0 K (m + 1) x0 x1 x2 = b0 (q0 K m) (spec_pzClue.p K) x0 x1 x2 := by kernel_rfl
theorem kl (n : Nat) : ∀ K, n + 2 ≤ K → (∀ m, n ≤ m → ∀ (x0 : List (Int × (Int × Int))) (x1 x2 : Int), Le (l0 n x0 x1 x2) (q0 K m x0 x1 x2)) := by
 induction n with
 | zero => exact fun K _ => fun _ _ _ _ _ => Le.none
 | succ n ih =>
  intro K hK
  have ih := ih K (by omega)
  intro m hm x0 x1 x2
  obtain ⟨m, rfl⟩ := pos_of_le hm
  rw [e0]
  show Le (b0 (l0 n) spec_pzClue.f x0 x1 x2) _
  unfold b0
  repeat' first | with_reducible apply Le.bind | with_reducible apply Le.ite | with_reducible exact Le.rfl | with_reducible refine ih _ ?_ _ _ _ | with_reducible refine spec_pzClue.k ?_ _ _ _ | with_reducible intro _ | omega
theorem k {n K : Nat} (h : n + 3 ≤ K) (a0 : List (Int × (Int × Int))) : Le (f n a0) (p K a0) := by
 obtain ⟨K, rfl⟩ := pos_of_le (show 0 + 1 ≤ K by omega)
 have kl := kl n K (by omega)
 rw [e]
 unfold f b
 repeat' first | with_reducible apply Le.bind | with_reducible apply Le.ite | with_reducible exact Le.rfl | with_reducible refine kl _ ?_ _ _ _ | with_reducible intro _ | omega
end spec_pzGood
namespace spec_pzFits
noncomputable def p (K : Nat) (a0 a1 a2 a3 a4 : Int) : Option Bool := PI Cx K 61 [.sv (.agg [.int .i64 a0, .int .i64 a1, .int .i64 a2]), .sv (.agg [.int .i64 a3, .int .i64 a4])]
noncomputable def b (g0 : Int → Int → Int → Int → Option Int) (a0 a1 a2 a3 a4 : Int) : Option Bool :=
 (g0 a0 a1 a3 a4).bind fun t0 =>
 some (t0 == a2)
noncomputable def f (a0 a1 a2 a3 a4 : Int) : Option Bool := b spec_pzValue.f a0 a1 a2 a3 a4
theorem e (K : Nat) (a0 a1 a2 a3 a4 : Int) : p (K + 1) a0 a1 a2 a3 a4 = b (spec_pzValue.p K) a0 a1 a2 a3 a4 := PI_at Cx (by kernel_rfl)
theorem k {K : Nat} (h : 3 ≤ K) (a0 a1 a2 a3 a4 : Int) : Le (f a0 a1 a2 a3 a4) (p K a0 a1 a2 a3 a4) := by
 obtain ⟨K, rfl⟩ := pos_of_le (show 0 + 1 ≤ K by omega)
 rw [e]
 unfold f b
 repeat' first | with_reducible apply Le.bind | with_reducible apply Le.ite | with_reducible exact Le.rfl | with_reducible refine spec_pzValue.k ?_ _ _ _ _ | with_reducible intro _ | omega
end spec_pzFits
end Go.Proofs.YtlibgicponpecaaGreatDoor.Gu
