import Derived.Test.YtnpfeemkichniaaHiC
namespace Go.Proofs.Ytnpfeemkichniaa.Hi
open Go Go.Proofs.YtnpfeemkichniaaPi Go.RowKit
set_option maxRecDepth 100000
set_option linter.unusedVariables false
namespace laws_big
noncomputable def p (K : Nat) (a0 a1 : List Int) : Option Bool := PI Cx K 25 [.sv (.one (.sl 5 (.int .u8) a0)), .sv (.one (.sl 5 (.int .u8) a1))]
noncomputable def f (a0 a1 : List Int) : Option Bool :=
 if (decide ((dlen a0) > 1048576)) = true then (some true) else (some (decide ((dlen a1) > (wrap64 (1048576 - (dlen a0))))))
theorem e (K : Nat) (a0 a1 : List Int) : p (K + 1) a0 a1 = f a0 a1 := by kernel_rfl
theorem k {K : Nat} (h : 1 ≤ K) (a0 a1 : List Int) : Le (f a0 a1) (p K a0 a1) := by
 obtain ⟨K, rfl⟩ := pos_of_le h
 rw [e]
 exact Le.rfl
end laws_big
namespace spec_l1Cur_next
noncomputable def p (K : Nat) (a0 : List Int) (a1 a2 : Int) : Option (Int × ((List Int) × (Int × Int))) := PI Cx K 70 [.sv (.agg [.sl 5 (.int .u8) a0, .int .i64 a1, .int .u64 a2])]
noncomputable def f (a0 : List Int) (a1 a2 : Int) : Option (Int × ((List Int) × (Int × Int))) :=
 if (decide (a1 < (dlen a0))) = true then (if 0 ≤ a1 then (if a1 < (dlen a0) then (if (decide ((wrap64 (a1 + 1)) ≤ (dlen a0))) = true then (some ((wrap64 (rd 0 a0 a1)), (a0, ((wrap64 (a1 + 1)), (IntKind.wrap .u64 ((IntKind.wrap .u64 ((IntKind.wrap .u64 (a2 * 6364136223846793005)) + (IntKind.wrap .u64 (wrap64 (rd 0 a0 a1))))) + 1442695040888963407)))))) else (some ((wrap64 (Go.bits .and .u64 (ishr (IntKind.wrap .u64 ((IntKind.wrap .u64 ((IntKind.wrap .u64 (a2 * 6364136223846793005)) + (IntKind.wrap .u64 (wrap64 (rd 0 a0 a1))))) + 1442695040888963407)) 40) 255)), (a0, ((wrap64 (a1 + 1)), (IntKind.wrap .u64 ((IntKind.wrap .u64 ((IntKind.wrap .u64 (a2 * 6364136223846793005)) + (IntKind.wrap .u64 (wrap64 (rd 0 a0 a1))))) + 1442695040888963407))))))) else (none)) else (none)) else (if (decide ((wrap64 (a1 + 1)) ≤ (dlen a0))) = true then (some (0, (a0, ((wrap64 (a1 + 1)), (IntKind.wrap .u64 ((IntKind.wrap .u64 ((IntKind.wrap .u64 (a2 * 6364136223846793005)) + 0)) + 1442695040888963407)))))) else (some ((wrap64 (Go.bits .and .u64 (ishr (IntKind.wrap .u64 ((IntKind.wrap .u64 ((IntKind.wrap .u64 (a2 * 6364136223846793005)) + 0)) + 1442695040888963407)) 40) 255)), (a0, ((wrap64 (a1 + 1)), (IntKind.wrap .u64 ((IntKind.wrap .u64 ((IntKind.wrap .u64 (a2 * 6364136223846793005)) + 0)) + 1442695040888963407)))))))
theorem e (K : Nat) (a0 : List Int) (a1 a2 : Int) : p (K + 1) a0 a1 a2 = f a0 a1 a2 := by kernel_rfl
theorem k {K : Nat} (h : 1 ≤ K) (a0 : List Int) (a1 a2 : Int) : Le (f a0 a1 a2) (p K a0 a1 a2) := by
 obtain ⟨K, rfl⟩ := pos_of_le h
 rw [e]
 exact Le.rfl
end spec_l1Cur_next
namespace spec_l1Cur_pick
noncomputable def p (K : Nat) (a0 : List Int) (a1 a2 a3 : Int) : Option (Int × ((List Int) × (Int × Int))) := PI Cx K 58 [.sv (.agg [.sl 5 (.int .u8) a0, .int .i64 a1, .int .u64 a2]), .sv (.one (.int .i64 a3))]
noncomputable def b (g0 : List Int → Int → Int → Option (Int × ((List Int) × (Int × Int)))) (a0 : List Int) (a1 a2 a3 : Int) : Option (Int × ((List Int) × (Int × Int))) :=
 if (decide (a3 ≤ 1)) = true then (some (0, (a0, (a1, a2)))) else ((g0 a0 a1 a2).bind fun t0 =>
 if (decide (a3 > 200)) = true then ((g0 t0.2.1 t0.2.2.1 t0.2.2.2).bind fun t1 =>
 if a3 = 0 then (none) else (some ((Int.tmod (wrap64 ((wrap64 (t0.1 * 256)) + t1.1)) a3), t1.2))) else (if a3 = 0 then (none) else (some ((Int.tmod t0.1 a3), t0.2))))
noncomputable def f (a0 : List Int) (a1 a2 a3 : Int) : Option (Int × ((List Int) × (Int × Int))) := b spec_l1Cur_next.f a0 a1 a2 a3
theorem e (K : Nat) (a0 : List Int) (a1 a2 a3 : Int) : p (K + 1) a0 a1 a2 a3 = b (spec_l1Cur_next.p K) a0 a1 a2 a3 := by kernel_rfl
theorem k {K : Nat} (h : 2 ≤ K) (a0 : List Int) (a1 a2 a3 : Int) : Le (f a0 a1 a2 a3) (p K a0 a1 a2 a3) := by
 obtain ⟨K, rfl⟩ := pos_of_le (show 0 + 1 ≤ K by omega)
 rw [e]
 unfold f b
 repeat' first | with_reducible apply Le.bind | with_reducible apply Le.ite | with_reducible exact Le.rfl | with_reducible refine spec_l1Cur_next.k ?_ _ _ _ | with_reducible intro _ | omega
end spec_l1Cur_pick
namespace spec_l1Cur_one
noncomputable def p (K : Nat) (a0 : List Int) (a1 a2 a3 : Int) : Option (Bool × ((List Int) × (Int × Int))) := PI Cx K 54 [.sv (.agg [.sl 5 (.int .u8) a0, .int .i64 a1, .int .u64 a2]), .sv (.one (.int .i64 a3))]
noncomputable def b (g0 : List Int → Int → Int → Int → Option (Int × ((List Int) × (Int × Int)))) (a0 : List Int) (a1 a2 a3 : Int) : Option (Bool × ((List Int) × (Int × Int))) :=
 (g0 a0 a1 a2 a3).bind fun t0 =>
 some ((t0.1 == 0), t0.2)
noncomputable def f (a0 : List Int) (a1 a2 a3 : Int) : Option (Bool × ((List Int) × (Int × Int))) := b spec_l1Cur_pick.f a0 a1 a2 a3
theorem e (K : Nat) (a0 : List Int) (a1 a2 a3 : Int) : p (K + 1) a0 a1 a2 a3 = b (spec_l1Cur_pick.p K) a0 a1 a2 a3 := by kernel_rfl
theorem k {K : Nat} (h : 3 ≤ K) (a0 : List Int) (a1 a2 a3 : Int) : Le (f a0 a1 a2 a3) (p K a0 a1 a2 a3) := by
 obtain ⟨K, rfl⟩ := pos_of_le (show 0 + 1 ≤ K by omega)
 rw [e]
 unfold f b
 repeat' first | with_reducible apply Le.bind | with_reducible apply Le.ite | with_reducible exact Le.rfl | with_reducible refine spec_l1Cur_pick.k ?_ _ _ _ _ | with_reducible intro _ | omega
end spec_l1Cur_one
namespace spec_l1Cur_among
noncomputable def p (K : Nat) (a0 : List Int) (a1 a2 : Int) (a3 : List Int) : Option (Int × ((List Int) × (Int × Int))) := PI Cx K 56 [.sv (.agg [.sl 5 (.int .u8) a0, .int .i64 a1, .int .u64 a2]), .sv (.one (.sl 3 (.int .i64) a3))]
noncomputable def b (g0 : List Int → Int → Int → Int → Option (Int × ((List Int) × (Int × Int)))) (a0 : List Int) (a1 a2 : Int) (a3 : List Int) : Option (Int × ((List Int) × (Int × Int))) :=
 (g0 a0 a1 a2 (dlen a3)).bind fun t0 =>
 if 0 ≤ t0.1 then (if t0.1 < (dlen a3) then (some ((rd 0 a3 t0.1), t0.2)) else (none)) else (none)
noncomputable def f (a0 : List Int) (a1 a2 : Int) (a3 : List Int) : Option (Int × ((List Int) × (Int × Int))) := b spec_l1Cur_pick.f a0 a1 a2 a3
theorem e (K : Nat) (a0 : List Int) (a1 a2 : Int) (a3 : List Int) : p (K + 1) a0 a1 a2 a3 = b (spec_l1Cur_pick.p K) a0 a1 a2 a3 := by kernel_rfl
theorem k {K : Nat} (h : 3 ≤ K) (a0 : List Int) (a1 a2 : Int) (a3 : List Int) : Le (f a0 a1 a2 a3) (p K a0 a1 a2 a3) := by
 obtain ⟨K, rfl⟩ := pos_of_le (show 0 + 1 ≤ K by omega)
 rw [e]
 unfold f b
 repeat' first | with_reducible apply Le.bind | with_reducible apply Le.ite | with_reducible exact Le.rfl | with_reducible refine spec_l1Cur_pick.k ?_ _ _ _ _ | with_reducible intro _ | omega
end spec_l1Cur_among
namespace spec_l1Cur_sureSnail
noncomputable def p (K : Nat) (a0 : List Int) (a1 a2 : Int) : Option ((Int × Int) × ((List Int) × (Int × Int))) := PI Cx K 69 [.sv (.agg [.sl 5 (.int .u8) a0, .int .i64 a1, .int .u64 a2])]
noncomputable def b (g0 : List Int → Int → Int → Int → Option (Bool × ((List Int) × (Int × Int)))) (g1 : List Int → Int → Int → List Int → Option (Int × ((List Int) × (Int × Int)))) (g2 : List Int → Int → Int → Int → Option (Int × ((List Int) × (Int × Int)))) (a0 : List Int) (a1 a2 : Int) : Option ((Int × Int) × ((List Int) × (Int × Int))) :=
 (g0 a0 a1 a2 6).bind fun t0 =>
 if t0.1 = true then ((g1 t0.2.1 t0.2.2.1 t0.2.2.2 [1, 7, 1000]).bind fun t1 =>
 (g1 t1.2.1 t1.2.2.1 t1.2.2.2 [0, 1, 7, 999, 1000]).bind fun t2 =>
 some ((t1.1, t2.1), t2.2)) else ((g2 t0.2.1 t0.2.2.1 t0.2.2.2 9).bind fun t1 =>
 (g2 t1.2.1 t1.2.2.1 t1.2.2.2 (wrap64 ((wrap64 (1 + t1.1)) + 1))).bind fun t2 =>
 some (((wrap64 (1 + t1.1)), t2.1), t2.2))
noncomputable def f (a0 : List Int) (a1 a2 : Int) : Option ((Int × Int) × ((List Int) × (Int × Int))) := b spec_l1Cur_one.f spec_l1Cur_among.f spec_l1Cur_pick.f a0 a1 a2
theorem e (K : Nat) (a0 : List Int) (a1 a2 : Int) : p (K + 1) a0 a1 a2 = b (spec_l1Cur_one.p K) (spec_l1Cur_among.p K) (spec_l1Cur_pick.p K) a0 a1 a2 := by kernel_rfl
theorem k {K : Nat} (h : 4 ≤ K) (a0 : List Int) (a1 a2 : Int) : Le (f a0 a1 a2) (p K a0 a1 a2) := by
 obtain ⟨K, rfl⟩ := pos_of_le (show 0 + 1 ≤ K by omega)
 rw [e]
 unfold f b
 repeat' first | with_reducible apply Le.bind | with_reducible apply Le.ite | with_reducible exact Le.rfl | with_reducible refine spec_l1Cur_one.k ?_ _ _ _ _ | with_reducible refine spec_l1Cur_among.k ?_ _ _ _ _ | with_reducible refine spec_l1Cur_pick.k ?_ _ _ _ _ | with_reducible intro _ | omega
end spec_l1Cur_sureSnail
namespace spec_l1Cur_snail
noncomputable def p (K : Nat) (a0 : List Int) (a1 a2 : Int) : Option ((Int × Int) × ((List Int) × (Int × Int))) := PI Cx K 55 [.sv (.agg [.sl 5 (.int .u8) a0, .int .i64 a1, .int .u64 a2])]
noncomputable def b (g0 : List Int → Int → Int → Int → Option (Bool × ((List Int) × (Int × Int)))) (g1 : List Int → Int → Int → List Int → Option (Int × ((List Int) × (Int × Int)))) (g2 : List Int → Int → Int → Option ((Int × Int) × ((List Int) × (Int × Int)))) (a0 : List Int) (a1 a2 : Int) : Option ((Int × Int) × ((List Int) × (Int × Int))) :=
 (g0 a0 a1 a2 14).bind fun t0 =>
 if t0.1 = true then ((g1 t0.2.1 t0.2.2.1 t0.2.2.2 [(-1), 0, 1, 1001, 4611686018427387904]).bind fun t1 =>
 (g1 t1.2.1 t1.2.2.1 t1.2.2.2 [(-1), 0, 1, 1001, (-9223372036854775808)]).bind fun t2 =>
 some ((t1.1, t2.1), t2.2)) else ((g2 t0.2.1 t0.2.2.1 t0.2.2.2).bind fun t1 =>
 some t1)
noncomputable def f (a0 : List Int) (a1 a2 : Int) : Option ((Int × Int) × ((List Int) × (Int × Int))) := b spec_l1Cur_one.f spec_l1Cur_among.f spec_l1Cur_sureSnail.f a0 a1 a2
theorem e (K : Nat) (a0 : List Int) (a1 a2 : Int) : p (K + 1) a0 a1 a2 = b (spec_l1Cur_one.p K) (spec_l1Cur_among.p K) (spec_l1Cur_sureSnail.p K) a0 a1 a2 := by kernel_rfl
theorem k {K : Nat} (h : 5 ≤ K) (a0 : List Int) (a1 a2 : Int) : Le (f a0 a1 a2) (p K a0 a1 a2) := by
 obtain ⟨K, rfl⟩ := pos_of_le (show 0 + 1 ≤ K by omega)
 rw [e]
 unfold f b
 repeat' first | with_reducible apply Le.bind | with_reducible apply Le.ite | with_reducible exact Le.rfl | with_reducible refine spec_l1Cur_one.k ?_ _ _ _ _ | with_reducible refine spec_l1Cur_among.k ?_ _ _ _ _ | with_reducible refine spec_l1Cur_sureSnail.k ?_ _ _ _ | with_reducible intro _ | omega
end spec_l1Cur_snail
namespace spec_l1Cur_hidden
noncomputable def p (K : Nat) (a0 : List Int) (a1 a2 : Int) : Option ((Int × Int) × ((List Int) × (Int × Int))) := PI Cx K 57 [.sv (.agg [.sl 5 (.int .u8) a0, .int .i64 a1, .int .u64 a2])]
noncomputable def b (g0 : List Int → Int → Int → Int → Option (Int × ((List Int) × (Int × Int)))) (a0 : List Int) (a1 a2 : Int) : Option ((Int × Int) × ((List Int) × (Int × Int))) :=
 (g0 a0 a1 a2 12).bind fun t0 =>
 (g0 t0.2.1 t0.2.2.1 t0.2.2.2 13).bind fun t1 =>
 some (((wrap64 (1 + t0.1)), t1.1), t1.2)
noncomputable def f (a0 : List Int) (a1 a2 : Int) : Option ((Int × Int) × ((List Int) × (Int × Int))) := b spec_l1Cur_pick.f a0 a1 a2
theorem e (K : Nat) (a0 : List Int) (a1 a2 : Int) : p (K + 1) a0 a1 a2 = b (spec_l1Cur_pick.p K) a0 a1 a2 := by kernel_rfl
theorem k {K : Nat} (h : 3 ≤ K) (a0 : List Int) (a1 a2 : Int) : Le (f a0 a1 a2) (p K a0 a1 a2) := by
 obtain ⟨K, rfl⟩ := pos_of_le (show 0 + 1 ≤ K by omega)
 rw [e]
 unfold f b
 repeat' first | with_reducible apply Le.bind | with_reducible apply Le.ite | with_reducible exact Le.rfl | with_reducible refine spec_l1Cur_pick.k ?_ _ _ _ _ | with_reducible intro _ | omega
end spec_l1Cur_hidden
namespace spec_DrawMakePuzzle
noncomputable def p (K : Nat) (a0 : List Int) : Option ((Int × Int) × (Int × Int)) := PI Cx K 26 [.sv (.one (.sl 5 (.int .u8) a0))]
noncomputable def b (g0 : List Int → Int → Int → Int → Option (Bool × ((List Int) × (Int × Int)))) (g1 : List Int → Int → Int → Option ((Int × Int) × ((List Int) × (Int × Int)))) (g2 : List Int → Int → Int → List Int → Option (Int × ((List Int) × (Int × Int)))) (g3 : List Int → Int → Int → Option ((Int × Int) × ((List Int) × (Int × Int)))) (g4 : List Int → Int → Int → Int → Option (Int × ((List Int) × (Int × Int)))) (a0 : List Int) : Option ((Int × Int) × (Int × Int)) :=
 (g0 a0 0 0 12).bind fun t0 =>
 if t0.1 = true then ((g1 t0.2.1 t0.2.2.1 t0.2.2.2).bind fun t1 =>
 (g2 t1.2.1 t1.2.2.1 t1.2.2.2 [(-1), 6, 7]).bind fun t2 =>
 (g2 t2.2.1 t2.2.2.1 t2.2.2.2 [(-1), 9999, 10000]).bind fun t3 =>
 some (t1.1, (t2.1, t3.1))) else ((g3 t0.2.1 t0.2.2.1 t0.2.2.2).bind fun t1 =>
 (g4 t1.2.1 t1.2.2.1 t1.2.2.2 7).bind fun t2 =>
 (g4 t2.2.1 t2.2.2.1 t2.2.2.2 10000).bind fun t3 =>
 some (t1.1, (t2.1, t3.1)))
noncomputable def f (a0 : List Int) : Option ((Int × Int) × (Int × Int)) := b spec_l1Cur_one.f spec_l1Cur_snail.f spec_l1Cur_among.f spec_l1Cur_hidden.f spec_l1Cur_pick.f a0
theorem e (K : Nat) (a0 : List Int) : p (K + 1) a0 = b (spec_l1Cur_one.p K) (spec_l1Cur_snail.p K) (spec_l1Cur_among.p K) (spec_l1Cur_hidden.p K) (spec_l1Cur_pick.p K) a0 := by kernel_rfl
theorem k {K : Nat} (h : 6 ≤ K) (a0 : List Int) : Le (f a0) (p K a0) := by
 obtain ⟨K, rfl⟩ := pos_of_le (show 0 + 1 ≤ K by omega)
 rw [e]
 unfold f b
 repeat' first | with_reducible apply Le.bind | with_reducible apply Le.ite | with_reducible exact Le.rfl | with_reducible refine spec_l1Cur_one.k ?_ _ _ _ _ | with_reducible refine spec_l1Cur_snail.k ?_ _ _ _ | with_reducible refine spec_l1Cur_among.k ?_ _ _ _ _ | with_reducible refine spec_l1Cur_hidden.k ?_ _ _ _ | with_reducible refine spec_l1Cur_pick.k ?_ _ _ _ _ | with_reducible intro _ | omega
end spec_DrawMakePuzzle
namespace impl_within
noncomputable def p (K : Nat) (a0 a1 a2 : Int) : Option Bool := PI Cx K 33 [.sv (.one (.int .i64 a0)), .sv (.one (.int .i64 a1)), .sv (.one (.int .i64 a2))]
noncomputable def f (a0 a1 a2 : Int) : Option Bool :=
 if (decide (a0 ≥ a1)) = true then (some (decide (a0 ≤ a2))) else (some false)
theorem e (K : Nat) (a0 a1 a2 : Int) : p (K + 1) a0 a1 a2 = f a0 a1 a2 := by kernel_rfl
theorem k {K : Nat} (h : 1 ≤ K) (a0 a1 a2 : Int) : Le (f a0 a1 a2) (p K a0 a1 a2) := by
 obtain ⟨K, rfl⟩ := pos_of_le h
 rw [e]
 exact Le.rfl
end impl_within
namespace impl_isHidden
noncomputable def p (K : Nat) (a0 a1 : Int) : Option Bool := PI Cx K 32 [.sv (.agg [.int .i64 a0, .int .i64 a1])]
noncomputable def b (g0 : Int → Int → Int → Option Bool) (a0 a1 : Int) : Option Bool :=
 (g0 a0 1 12).bind fun t0 =>
 if t0 = true then ((g0 a1 0 12).bind fun t1 =>
 some t1) else (some false)
noncomputable def f (a0 a1 : Int) : Option Bool := b impl_within.f a0 a1
theorem e (K : Nat) (a0 a1 : Int) : p (K + 1) a0 a1 = b (impl_within.p K) a0 a1 := by kernel_rfl
theorem k {K : Nat} (h : 2 ≤ K) (a0 a1 : Int) : Le (f a0 a1) (p K a0 a1) := by
 obtain ⟨K, rfl⟩ := pos_of_le (show 0 + 1 ≤ K by omega)
 rw [e]
 unfold f b
 repeat' first | with_reducible apply Le.bind | with_reducible apply Le.ite | with_reducible exact Le.rfl | with_reducible refine impl_within.k ?_ _ _ _ | with_reducible intro _ | omega
end impl_isHidden
namespace impl_dayOfHeight
noncomputable def p (K : Nat) (a0 a1 a2 : Int) : Option Int := PI Cx K 40 [.sv (.agg [.int .i64 a0, .int .i64 a1]), .sv (.one (.int .i64 a2))]
noncomputable def f (a0 a1 a2 : Int) : Option Int :=
 if (decide (a2 ≤ a0)) = true then (some 1) else (if (decide (a0 ≤ a1)) = true then (some 0) else (if (wrap64 (a0 - a1)) = 0 then (none) else (some (wrap64 (1 + (wrap64 (Int.tdiv (wrap64 ((wrap64 ((wrap64 (a2 - a0)) + (wrap64 (a0 - a1)))) - 1)) (wrap64 (a0 - a1)))))))))
theorem e (K : Nat) (a0 a1 a2 : Int) : p (K + 1) a0 a1 a2 = f a0 a1 a2 := by kernel_rfl
theorem k {K : Nat} (h : 1 ≤ K) (a0 a1 a2 : Int) : Le (f a0 a1 a2) (p K a0 a1 a2) := by
 obtain ⟨K, rfl⟩ := pos_of_le h
 rw [e]
 exact Le.rfl
end impl_dayOfHeight
namespace impl_reachOf
noncomputable def p (K : Nat) (a0 a1 a2 : Int) : Option Int := PI Cx K 64 [.sv (.agg [.int .i64 a0, .int .i64 a1]), .sv (.one (.int .i64 a2))]
noncomputable def f (a0 a1 a2 : Int) : Option Int :=
 some (wrap64 (a0 + (wrap64 ((mx 0 (wrap64 (a0 - a1))) * (wrap64 (a2 - 1))))))
theorem e (K : Nat) (a0 a1 a2 : Int) : p (K + 1) a0 a1 a2 = f a0 a1 a2 := by kernel_rfl
theorem k {K : Nat} (h : 1 ≤ K) (a0 a1 a2 : Int) : Le (f a0 a1 a2) (p K a0 a1 a2) := by
 obtain ⟨K, rfl⟩ := pos_of_le h
 rw [e]
 exact Le.rfl
end impl_reachOf
namespace impl_eveningHeight
noncomputable def p (K : Nat) (a0 a1 a2 a3 : Int) : Option Int := PI Cx K 43 [.sv (.agg [.int .i64 a0, .int .i64 a1]), .sv (.one (.int .i64 a2)), .sv (.one (.int .i64 a3))]
noncomputable def b (g0 : Int → Int → Int → Option Int) (a0 a1 a2 a3 : Int) : Option Int :=
 (g0 a0 a1 a3).bind fun t0 =>
 some (mn a2 t0)
noncomputable def f (a0 a1 a2 a3 : Int) : Option Int := b impl_reachOf.f a0 a1 a2 a3
theorem e (K : Nat) (a0 a1 a2 a3 : Int) : p (K + 1) a0 a1 a2 a3 = b (impl_reachOf.p K) a0 a1 a2 a3 := by kernel_rfl
theorem k {K : Nat} (h : 2 ≤ K) (a0 a1 a2 a3 : Int) : Le (f a0 a1 a2 a3) (p K a0 a1 a2 a3) := by
 obtain ⟨K, rfl⟩ := pos_of_le (show 0 + 1 ≤ K by omega)
 rw [e]
 unfold f b
 repeat' first | with_reducible apply Le.bind | with_reducible apply Le.ite | with_reducible exact Le.rfl | with_reducible refine impl_reachOf.k ?_ _ _ _ | with_reducible intro _ | omega
end impl_eveningHeight
namespace impl_toldBy
noncomputable def p (K : Nat) (a0 a1 a2 a3 a4 : Int) : Option Int := PI Cx K 34 [.sv (.agg [.int .i64 a0, .int .i64 a1, .int .i64 a2]), .sv (.agg [.int .i64 a3, .int .i64 a4])]
noncomputable def b (g0 : Int → Int → Int → Option Int) (g1 : Int → Int → Int → Int → Option Int) (a0 a1 a2 a3 a4 : Int) : Option Int :=
 if (a0 == 0) = true then ((g0 a3 a4 a1).bind fun t0 =>
 some t0) else (if (a0 == 1) = true then ((g1 a3 a4 100 a1).bind fun t0 =>
 some t0) else (if (a0 == 2) = true then (some (wrap64 (a3 + a4))) else (if (a0 == 3) = true then (if a1 = 0 then (none) else (if ((Int.tmod a3 a1) == 0) = true then (some 1) else (some 0))) else (some (wrap64 (a3 - a4))))))
noncomputable def f (a0 a1 a2 a3 a4 : Int) : Option Int := b impl_dayOfHeight.f impl_eveningHeight.f a0 a1 a2 a3 a4
theorem e (K : Nat) (a0 a1 a2 a3 a4 : Int) : p (K + 1) a0 a1 a2 a3 a4 = b (impl_dayOfHeight.p K) (impl_eveningHeight.p K) a0 a1 a2 a3 a4 := by kernel_rfl
theorem k {K : Nat} (h : 3 ≤ K) (a0 a1 a2 a3 a4 : Int) : Le (f a0 a1 a2 a3 a4) (p K a0 a1 a2 a3 a4) := by
 obtain ⟨K, rfl⟩ := pos_of_le (show 0 + 1 ≤ K by omega)
 rw [e]
 unfold f b
 repeat' first | with_reducible apply Le.bind | with_reducible apply Le.ite | with_reducible exact Le.rfl | with_reducible refine impl_dayOfHeight.k ?_ _ _ _ | with_reducible refine impl_eveningHeight.k ?_ _ _ _ _ | with_reducible intro _ | omega
end impl_toldBy
namespace impl_MakePuzzle
noncomputable def p (K : Nat) (a0 a1 a2 a3 : Int) : Option ((List (Int × (Int × Int))) × Bool) := PI Cx K 5 [.sv (.agg [.int .i64 a0, .int .i64 a1]), .sv (.one (.int .i64 a2)), .sv (.one (.int .i64 a3))]
noncomputable def q0 (K m : Nat) (x0 x1 x2 x3 x4 : Int) (x5 : List (Int × (Int × Int))) : Option ((List (Int × (Int × Int))) × Bool) := loopAt Cx K 5 [true, true, true, true, false, true, true] [] m ⟨[(3, .sv (.one (.ptr 0 0))), (6, .sv (.one (.ptr 1000 0))), (8, .sv (.one (.ptr 3000000 0))), (9, .sv (.one (.int .i64 x0))), (26, .sv (.one (.int .i64 x1))), (27, .sv (.one (.int .i64 x2)))], [(0, .box 23 [.int .i64 x3, .int .i64 x4]), (1000, .box 26 [.nilsl]), (3000000, .box 26 [.full 2000003000000000]), (2000003000000000, .row 28 (.pair (.int .i64) (.pair (.int .i64) (.int .i64))) x5 .own)], []⟩
noncomputable def b (L0 : Int → Int → Int → Int → Int → List (Int × (Int × Int)) → Option ((List (Int × (Int × Int))) × Bool)) (g0 : Int → Int → Option Bool) (g1 : Int → Int → Int → Option Bool) (a0 a1 a2 a3 : Int) : Option ((List (Int × (Int × Int))) × Bool) :=
 (g0 a0 a1).bind fun t0 =>
 if (!t0) = true then (some (([] : List (Int × (Int × Int))), false)) else ((g1 a2 0 6).bind fun t1 =>
 if (!t1) = true then (some (([] : List (Int × (Int × Int))), false)) else ((g1 a3 0 9999).bind fun t2 =>
 if (!t2) = true then (some (([] : List (Int × (Int × Int))), false)) else (L0 a3 a2 0 a0 a1 ([] : List (Int × (Int × Int))))))
noncomputable def b0 (L0 : Int → Int → Int → Int → Int → List (Int × (Int × Int)) → Option ((List (Int × (Int × Int))) × Bool)) (g2 : Int → Int → Int → Int → Int → Option Int) (x0 x1 x2 x3 x4 : Int) (x5 : List (Int × (Int × Int))) : Option ((List (Int × (Int × Int))) × Bool) :=
 if (decide (x2 < x1)) = true then (if ((Int.tmod (Int.tmod (wrap64 ((wrap64 (x0 * 227)) + 2027)) 10007) 5) == 0) = true then ((g2 (Int.tmod (Int.tmod (wrap64 ((wrap64 (x0 * 227)) + 2027)) 10007) 5) (wrap64 ((Int.tmod (Int.tmod (wrap64 ((wrap64 ((Int.tmod (wrap64 ((wrap64 (x0 * 227)) + 2027)) 10007) * 227)) + 2027)) 10007) 100) + 1)) 0 x3 x4).bind fun t0 =>
 if ((dlenN x5) + 1) ≤ 5864062014805 then (L0 (Int.tmod (wrap64 ((wrap64 ((Int.tmod (wrap64 ((wrap64 (x0 * 227)) + 2027)) 10007) * 227)) + 2027)) 10007) x1 (wrap64 (x2 + 1)) x3 x4 (x5 ++ [((Int.tmod (Int.tmod (wrap64 ((wrap64 (x0 * 227)) + 2027)) 10007) 5), ((wrap64 ((Int.tmod (Int.tmod (wrap64 ((wrap64 ((Int.tmod (wrap64 ((wrap64 (x0 * 227)) + 2027)) 10007) * 227)) + 2027)) 10007) 100) + 1)), t0))])) else (none)) else (if ((Int.tmod (Int.tmod (wrap64 ((wrap64 (x0 * 227)) + 2027)) 10007) 5) == 1) = true then ((g2 (Int.tmod (Int.tmod (wrap64 ((wrap64 (x0 * 227)) + 2027)) 10007) 5) (wrap64 ((Int.tmod (Int.tmod (wrap64 ((wrap64 ((Int.tmod (wrap64 ((wrap64 (x0 * 227)) + 2027)) 10007) * 227)) + 2027)) 10007) 100) + 1)) 0 x3 x4).bind fun t0 =>
 if ((dlenN x5) + 1) ≤ 5864062014805 then (L0 (Int.tmod (wrap64 ((wrap64 ((Int.tmod (wrap64 ((wrap64 (x0 * 227)) + 2027)) 10007) * 227)) + 2027)) 10007) x1 (wrap64 (x2 + 1)) x3 x4 (x5 ++ [((Int.tmod (Int.tmod (wrap64 ((wrap64 (x0 * 227)) + 2027)) 10007) 5), ((wrap64 ((Int.tmod (Int.tmod (wrap64 ((wrap64 ((Int.tmod (wrap64 ((wrap64 (x0 * 227)) + 2027)) 10007) * 227)) + 2027)) 10007) 100) + 1)), t0))])) else (none)) else (if ((Int.tmod (Int.tmod (wrap64 ((wrap64 (x0 * 227)) + 2027)) 10007) 5) == 3) = true then ((g2 (Int.tmod (Int.tmod (wrap64 ((wrap64 (x0 * 227)) + 2027)) 10007) 5) (wrap64 ((Int.tmod (Int.tmod (wrap64 ((wrap64 ((Int.tmod (wrap64 ((wrap64 (x0 * 227)) + 2027)) 10007) * 227)) + 2027)) 10007) 8) + 2)) 0 x3 x4).bind fun t0 =>
 if ((dlenN x5) + 1) ≤ 5864062014805 then (L0 (Int.tmod (wrap64 ((wrap64 ((Int.tmod (wrap64 ((wrap64 (x0 * 227)) + 2027)) 10007) * 227)) + 2027)) 10007) x1 (wrap64 (x2 + 1)) x3 x4 (x5 ++ [((Int.tmod (Int.tmod (wrap64 ((wrap64 (x0 * 227)) + 2027)) 10007) 5), ((wrap64 ((Int.tmod (Int.tmod (wrap64 ((wrap64 ((Int.tmod (wrap64 ((wrap64 (x0 * 227)) + 2027)) 10007) * 227)) + 2027)) 10007) 8) + 2)), t0))])) else (none)) else ((g2 (Int.tmod (Int.tmod (wrap64 ((wrap64 (x0 * 227)) + 2027)) 10007) 5) 0 0 x3 x4).bind fun t0 =>
 if ((dlenN x5) + 1) ≤ 5864062014805 then (L0 (Int.tmod (wrap64 ((wrap64 ((Int.tmod (wrap64 ((wrap64 (x0 * 227)) + 2027)) 10007) * 227)) + 2027)) 10007) x1 (wrap64 (x2 + 1)) x3 x4 (x5 ++ [((Int.tmod (Int.tmod (wrap64 ((wrap64 (x0 * 227)) + 2027)) 10007) 5), (0, t0))])) else (none))))) else (some (x5, true))
noncomputable def l0 : Nat → Int → Int → Int → Int → Int → List (Int × (Int × Int)) → Option ((List (Int × (Int × Int))) × Bool)
 | 0, _, _, _, _, _, _ => none
 | k + 1, x0, x1, x2, x3, x4, x5 => b0 (l0 k) impl_toldBy.f x0 x1 x2 x3 x4 x5
noncomputable def f (k : Nat) (a0 a1 a2 a3 : Int) : Option ((List (Int × (Int × Int))) × Bool) := b (l0 k) impl_isHidden.f impl_within.f a0 a1 a2 a3
theorem e (K : Nat) (a0 a1 a2 a3 : Int) : p (K + 1) a0 a1 a2 a3 = b (q0 K K) (impl_isHidden.p K) (impl_within.p K) a0 a1 a2 a3 := by kernel_rfl
theorem e0 (K m : Nat) (x0 x1 x2 x3 x4 : Int) (x5 : List (Int × (Int × Int))) : q0 K (m + 1) x0 x1 x2 x3 x4 x5 = b0 (q0 K m) (impl_toldBy.p K) x0 x1 x2 x3 x4 x5 := by kernel_rfl
theorem kl (n : Nat) : ∀ K, n + 3 ≤ K → (∀ m, n ≤ m → ∀ (x0 x1 x2 x3 x4 : Int) (x5 : List (Int × (Int × Int))), Le (l0 n x0 x1 x2 x3 x4 x5) (q0 K m x0 x1 x2 x3 x4 x5)) := by
 induction n with
 | zero => exact fun K _ => fun _ _ _ _ _ _ _ _ => Le.none
 | succ n ih =>
  intro K hK
  have ih := ih K (by omega)
  intro m hm x0 x1 x2 x3 x4 x5
  obtain ⟨m, rfl⟩ := pos_of_le hm
  rw [e0]
  show Le (b0 (l0 n) impl_toldBy.f x0 x1 x2 x3 x4 x5) _
  unfold b0
  repeat' first | with_reducible apply Le.bind | with_reducible apply Le.ite | with_reducible exact Le.rfl | with_reducible refine ih _ ?_ _ _ _ _ _ _ | with_reducible refine impl_toldBy.k ?_ _ _ _ _ _ | with_reducible intro _ | omega
theorem k {n K : Nat} (h : n + 4 ≤ K) (a0 a1 a2 a3 : Int) : Le (f n a0 a1 a2 a3) (p K a0 a1 a2 a3) := by
 obtain ⟨K, rfl⟩ := pos_of_le (show 0 + 1 ≤ K by omega)
 have kl := kl n K (by omega)
 rw [e]
 unfold f b
 repeat' first | with_reducible apply Le.bind | with_reducible apply Le.ite | with_reducible exact Le.rfl | with_reducible refine kl _ ?_ _ _ _ _ _ _ | with_reducible refine impl_isHidden.k ?_ _ _ | with_reducible refine impl_within.k ?_ _ _ _ | with_reducible intro _ | omega
end impl_MakePuzzle
namespace spec_l1In
noncomputable def p (K : Nat) (a0 a1 a2 : Int) : Option Bool := PI Cx K 36 [.sv (.one (.int .i64 a0)), .sv (.one (.int .i64 a1)), .sv (.one (.int .i64 a2))]
noncomputable def f (a0 a1 a2 : Int) : Option Bool :=
 if (decide (a0 ≥ a1)) = true then (some (decide (a0 ≤ a2))) else (some false)
theorem e (K : Nat) (a0 a1 a2 : Int) : p (K + 1) a0 a1 a2 = f a0 a1 a2 := by kernel_rfl
theorem k {K : Nat} (h : 1 ≤ K) (a0 a1 a2 : Int) : Le (f a0 a1 a2) (p K a0 a1 a2) := by
 obtain ⟨K, rfl⟩ := pos_of_le h
 rw [e]
 exact Le.rfl
end spec_l1In
namespace spec_snGood
noncomputable def p (K : Nat) (a0 a1 : Int) : Option Bool := PI Cx K 61 [.sv (.agg [.int .i64 a0, .int .i64 a1])]
noncomputable def b (g0 : Int → Int → Int → Option Bool) (a0 a1 : Int) : Option Bool :=
 (g0 a0 1 1000).bind fun t0 =>
 if t0 = true then ((g0 a1 0 1000).bind fun t1 =>
 some t1) else (some false)
noncomputable def f (a0 a1 : Int) : Option Bool := b spec_l1In.f a0 a1
theorem e (K : Nat) (a0 a1 : Int) : p (K + 1) a0 a1 = b (spec_l1In.p K) a0 a1 := by kernel_rfl
theorem k {K : Nat} (h : 2 ≤ K) (a0 a1 : Int) : Le (f a0 a1) (p K a0 a1) := by
 obtain ⟨K, rfl⟩ := pos_of_le (show 0 + 1 ≤ K by omega)
 rw [e]
 unfold f b
 repeat' first | with_reducible apply Le.bind | with_reducible apply Le.ite | with_reducible exact Le.rfl | with_reducible refine spec_l1In.k ?_ _ _ _ | with_reducible intro _ | omega
end spec_snGood
namespace spec_pzHidden
noncomputable def p (K : Nat) (a0 a1 : Int) : Option Bool := PI Cx K 35 [.sv (.agg [.int .i64 a0, .int .i64 a1])]
noncomputable def b (g0 : Int → Int → Option Bool) (a0 a1 : Int) : Option Bool :=
 (g0 a0 a1).bind fun t0 =>
 if t0 = true then (if (decide (a0 ≤ 12)) = true then (some (decide (a1 ≤ 12))) else (some false)) else (some false)
noncomputable def f (a0 a1 : Int) : Option Bool := b spec_snGood.f a0 a1
theorem e (K : Nat) (a0 a1 : Int) : p (K + 1) a0 a1 = b (spec_snGood.p K) a0 a1 := by kernel_rfl
theorem k {K : Nat} (h : 3 ≤ K) (a0 a1 : Int) : Le (f a0 a1) (p K a0 a1) := by
 obtain ⟨K, rfl⟩ := pos_of_le (show 0 + 1 ≤ K by omega)
 rw [e]
 unfold f b
 repeat' first | with_reducible apply Le.bind | with_reducible apply Le.ite | with_reducible exact Le.rfl | with_reducible refine spec_snGood.k ?_ _ _ | with_reducible intro _ | omega
end spec_pzHidden
namespace spec_pzNext
noncomputable def p (K : Nat) (a0 : Int) : Option Int := PI Cx K 37 [.sv (.one (.int .i64 a0))]
noncomputable def f (a0 : Int) : Option Int :=
 some (Int.tmod (wrap64 ((wrap64 (227 * a0)) + 2027)) 10007)
theorem e (K : Nat) (a0 : Int) : p (K + 1) a0 = f a0 := by kernel_rfl
theorem k {K : Nat} (h : 1 ≤ K) (a0 : Int) : Le (f a0) (p K a0) := by
 obtain ⟨K, rfl⟩ := pos_of_le h
 rw [e]
 exact Le.rfl
end spec_pzNext
namespace spec_snCan
noncomputable def p (K : Nat) (a0 a1 a2 : Int) : Option Bool := PI Cx K 72 [.sv (.agg [.int .i64 a0, .int .i64 a1]), .sv (.one (.int .i64 a2))]
noncomputable def f (a0 a1 a2 : Int) : Option Bool :=
 if (decide (a0 ≥ a2)) = true then (some true) else (some (decide (a0 > a1)))
theorem e (K : Nat) (a0 a1 a2 : Int) : p (K + 1) a0 a1 a2 = f a0 a1 a2 := by kernel_rfl
theorem k {K : Nat} (h : 1 ≤ K) (a0 a1 a2 : Int) : Le (f a0 a1 a2) (p K a0 a1 a2) := by
 obtain ⟨K, rfl⟩ := pos_of_le h
 rw [e]
 exact Le.rfl
end spec_snCan
namespace spec_snDays
noncomputable def p (K : Nat) (a0 a1 a2 : Int) : Option Int := PI Cx K 73 [.sv (.agg [.int .i64 a0, .int .i64 a1]), .sv (.one (.int .i64 a2))]
noncomputable def f (a0 a1 a2 : Int) : Option Int :=
 if (decide (a0 ≥ a2)) = true then (some 1) else (if (wrap64 (a0 - a1)) = 0 then (none) else (some (wrap64 (1 + (wrap64 (Int.tdiv (wrap64 ((wrap64 ((wrap64 (a2 - a0)) + (wrap64 (a0 - a1)))) - 1)) (wrap64 (a0 - a1))))))))
theorem e (K : Nat) (a0 a1 a2 : Int) : p (K + 1) a0 a1 a2 = f a0 a1 a2 := by kernel_rfl
theorem k {K : Nat} (h : 1 ≤ K) (a0 a1 a2 : Int) : Le (f a0 a1 a2) (p K a0 a1 a2) := by
 obtain ⟨K, rfl⟩ := pos_of_le h
 rw [e]
 exact Le.rfl
end spec_snDays
namespace spec_snEvening
noncomputable def p (K : Nat) (a0 a1 a2 : Int) : Option Int := PI Cx K 75 [.sv (.agg [.int .i64 a0, .int .i64 a1]), .sv (.one (.int .i64 a2))]
noncomputable def f (a0 a1 a2 : Int) : Option Int :=
 if (decide (a1 ≥ a0)) = true then (some a0) else (some (wrap64 (a0 + (wrap64 ((wrap64 (a2 - 1)) * (wrap64 (a0 - a1)))))))
theorem e (K : Nat) (a0 a1 a2 : Int) : p (K + 1) a0 a1 a2 = f a0 a1 a2 := by kernel_rfl
theorem k {K : Nat} (h : 1 ≤ K) (a0 a1 a2 : Int) : Le (f a0 a1 a2) (p K a0 a1 a2) := by
 obtain ⟨K, rfl⟩ := pos_of_le h
 rw [e]
 exact Le.rfl
end spec_snEvening
namespace spec_l1Least
noncomputable def p (K : Nat) (a0 a1 : Int) : Option Int := PI Cx K 74 [.sv (.one (.int .i64 a0)), .sv (.one (.int .i64 a1))]
noncomputable def f (a0 a1 : Int) : Option Int :=
 if (decide (a0 < a1)) = true then (some a0) else (some a1)
theorem e (K : Nat) (a0 a1 : Int) : p (K + 1) a0 a1 = f a0 a1 := by kernel_rfl
theorem k {K : Nat} (h : 1 ≤ K) (a0 a1 : Int) : Le (f a0 a1) (p K a0 a1) := by
 obtain ⟨K, rfl⟩ := pos_of_le h
 rw [e]
 exact Le.rfl
end spec_l1Least
namespace spec_pzValue
noncomputable def p (K : Nat) (a0 a1 a2 a3 : Int) : Option Int := PI Cx K 62 [.sv (.one (.int .i64 a0)), .sv (.one (.int .i64 a1)), .sv (.agg [.int .i64 a2, .int .i64 a3])]
noncomputable def b (g0 : Int → Int → Int → Option Bool) (g1 : Int → Int → Int → Option Int) (g2 : Int → Int → Int → Option Int) (g3 : Int → Int → Option Int) (a0 a1 a2 a3 : Int) : Option Int :=
 if (a0 == 0) = true then ((g0 a2 a3 a1).bind fun t0 =>
 if (!t0) = true then (some 0) else ((g1 a2 a3 a1).bind fun t1 =>
 some t1)) else (if (a0 == 1) = true then ((g2 a2 a3 a1).bind fun t0 =>
 (g3 100 t0).bind fun t1 =>
 some t1) else (if (a0 == 2) = true then (some (wrap64 (a2 + a3))) else (if (a0 == 3) = true then (if a1 = 0 then (none) else (if ((Int.tmod a2 a1) == 0) = true then (some 1) else (some 0))) else (some (wrap64 (a2 - a3))))))
noncomputable def f (a0 a1 a2 a3 : Int) : Option Int := b spec_snCan.f spec_snDays.f spec_snEvening.f spec_l1Least.f a0 a1 a2 a3
theorem e (K : Nat) (a0 a1 a2 a3 : Int) : p (K + 1) a0 a1 a2 a3 = b (spec_snCan.p K) (spec_snDays.p K) (spec_snEvening.p K) (spec_l1Least.p K) a0 a1 a2 a3 := by kernel_rfl
theorem k {K : Nat} (h : 2 ≤ K) (a0 a1 a2 a3 : Int) : Le (f a0 a1 a2 a3) (p K a0 a1 a2 a3) := by
 obtain ⟨K, rfl⟩ := pos_of_le (show 0 + 1 ≤ K by omega)
 rw [e]
 unfold f b
 repeat' first | with_reducible apply Le.bind | with_reducible apply Le.ite | with_reducible exact Le.rfl | with_reducible refine spec_snCan.k ?_ _ _ _ | with_reducible refine spec_snDays.k ?_ _ _ _ | with_reducible refine spec_snEvening.k ?_ _ _ _ | with_reducible refine spec_l1Least.k ?_ _ _ | with_reducible intro _ | omega
end spec_pzValue
namespace spec_pzOf
noncomputable def p (K : Nat) (a0 a1 a2 a3 : Int) : Option (Int × (Int × Int)) := PI Cx K 38 [.sv (.one (.int .i64 a0)), .sv (.one (.int .i64 a1)), .sv (.agg [.int .i64 a2, .int .i64 a3])]
noncomputable def b (g0 : Int → Int → Int → Int → Option Int) (a0 a1 a2 a3 : Int) : Option (Int × (Int × Int)) :=
 if (a0 == 0) = true then ((g0 a0 (wrap64 ((Int.tmod a1 100) + 1)) a2 a3).bind fun t0 =>
 some (a0, ((wrap64 ((Int.tmod a1 100) + 1)), t0))) else (if (a0 == 1) = true then ((g0 a0 (wrap64 ((Int.tmod a1 100) + 1)) a2 a3).bind fun t0 =>
 some (a0, ((wrap64 ((Int.tmod a1 100) + 1)), t0))) else (if (a0 == 3) = true then ((g0 a0 (wrap64 ((Int.tmod a1 8) + 2)) a2 a3).bind fun t0 =>
 some (a0, ((wrap64 ((Int.tmod a1 8) + 2)), t0))) else ((g0 a0 0 a2 a3).bind fun t0 =>
 some (a0, (0, t0)))))
noncomputable def f (a0 a1 a2 a3 : Int) : Option (Int × (Int × Int)) := b spec_pzValue.f a0 a1 a2 a3
theorem e (K : Nat) (a0 a1 a2 a3 : Int) : p (K + 1) a0 a1 a2 a3 = b (spec_pzValue.p K) a0 a1 a2 a3 := by kernel_rfl
theorem k {K : Nat} (h : 3 ≤ K) (a0 a1 a2 a3 : Int) : Le (f a0 a1 a2 a3) (p K a0 a1 a2 a3) := by
 obtain ⟨K, rfl⟩ := pos_of_le (show 0 + 1 ≤ K by omega)
 rw [e]
 unfold f b
 repeat' first | with_reducible apply Le.bind | with_reducible apply Le.ite | with_reducible exact Le.rfl | with_reducible refine spec_pzValue.k ?_ _ _ _ _ | with_reducible intro _ | omega
end spec_pzOf
namespace spec_MakePuzzle
noncomputable def p (K : Nat) (a0 a1 a2 a3 : Int) : Option ((List (Int × (Int × Int))) × Bool) := PI Cx K 6 [.sv (.agg [.int .i64 a0, .int .i64 a1]), .sv (.one (.int .i64 a2)), .sv (.one (.int .i64 a3))]
noncomputable def q0 (K m : Nat) (x0 x1 x2 x3 : Int) (x4 : List (Int × (Int × Int))) : Option ((List (Int × (Int × Int))) × Bool) := loopAt Cx K 6 [true, true, true, true, false, true] [] m ⟨[(1, .sv (.one (.int .i64 x0))), (3, .sv (.one (.ptr 0 0))), (6, .sv (.one (.ptr 1000 0))), (8, .sv (.one (.ptr 3000000 0))), (9, .sv (.one (.int .i64 x1)))], [(0, .box 23 [.int .i64 x2, .int .i64 x3]), (1000, .box 26 [.nilsl]), (3000000, .box 26 [.full 2000003000000000]), (2000003000000000, .row 28 (.pair (.int .i64) (.pair (.int .i64) (.int .i64))) x4 .own)], []⟩
noncomputable def b (L0 : Int → Int → Int → Int → List (Int × (Int × Int)) → Option ((List (Int × (Int × Int))) × Bool)) (g0 : Int → Int → Option Bool) (g1 : Int → Int → Int → Option Bool) (a0 a1 a2 a3 : Int) : Option ((List (Int × (Int × Int))) × Bool) :=
 (g0 a0 a1).bind fun t0 =>
 if (!t0) = true then (some (([] : List (Int × (Int × Int))), false)) else ((g1 a2 0 6).bind fun t1 =>
 if (!t1) = true then (some (([] : List (Int × (Int × Int))), false)) else ((g1 a3 0 9999).bind fun t2 =>
 if (!t2) = true then (some (([] : List (Int × (Int × Int))), false)) else (L0 a2 a3 a0 a1 ([] : List (Int × (Int × Int))))))
noncomputable def b0 (L0 : Int → Int → Int → Int → List (Int × (Int × Int)) → Option ((List (Int × (Int × Int))) × Bool)) (g2 : Int → Option Int) (g3 : Int → Int → Int → Int → Option (Int × (Int × Int))) (x0 x1 x2 x3 : Int) (x4 : List (Int × (Int × Int))) : Option ((List (Int × (Int × Int))) × Bool) :=
 if (decide (x0 > 0)) = true then ((g2 x1).bind fun t0 =>
 (g2 t0).bind fun t1 =>
 (g3 (Int.tmod t0 5) t1 x2 x3).bind fun t2 =>
 if ((dlenN x4) + 1) ≤ 5864062014805 then (L0 (wrap64 (x0 - 1)) t1 x2 x3 (x4 ++ [t2])) else (none)) else (some (x4, true))
noncomputable def l0 : Nat → Int → Int → Int → Int → List (Int × (Int × Int)) → Option ((List (Int × (Int × Int))) × Bool)
 | 0, _, _, _, _, _ => none
 | k + 1, x0, x1, x2, x3, x4 => b0 (l0 k) spec_pzNext.f spec_pzOf.f x0 x1 x2 x3 x4
noncomputable def f (k : Nat) (a0 a1 a2 a3 : Int) : Option ((List (Int × (Int × Int))) × Bool) := b (l0 k) spec_pzHidden.f spec_l1In.f a0 a1 a2 a3
theorem e (K : Nat) (a0 a1 a2 a3 : Int) : p (K + 1) a0 a1 a2 a3 = b (q0 K K) (spec_pzHidden.p K) (spec_l1In.p K) a0 a1 a2 a3 := by kernel_rfl
theorem e0 (K m : Nat) (x0 x1 x2 x3 : Int) (x4 : List (Int × (Int × Int))) : q0 K (m + 1) x0 x1 x2 x3 x4 = b0 (q0 K m) (spec_pzNext.p K) (spec_pzOf.p K) x0 x1 x2 x3 x4 := by kernel_rfl
theorem kl (n : Nat) : ∀ K, n + 3 ≤ K → (∀ m, n ≤ m → ∀ (x0 x1 x2 x3 : Int) (x4 : List (Int × (Int × Int))), Le (l0 n x0 x1 x2 x3 x4) (q0 K m x0 x1 x2 x3 x4)) := by
 induction n with
 | zero => exact fun K _ => fun _ _ _ _ _ _ _ => Le.none
 | succ n ih =>
  intro K hK
  have ih := ih K (by omega)
  intro m hm x0 x1 x2 x3 x4
  obtain ⟨m, rfl⟩ := pos_of_le hm
  rw [e0]
  show Le (b0 (l0 n) spec_pzNext.f spec_pzOf.f x0 x1 x2 x3 x4) _
  unfold b0
  repeat' first | with_reducible apply Le.bind | with_reducible apply Le.ite | with_reducible exact Le.rfl | with_reducible refine ih _ ?_ _ _ _ _ _ | with_reducible refine spec_pzNext.k ?_ _ | with_reducible refine spec_pzOf.k ?_ _ _ _ _ | with_reducible intro _ | omega
theorem k {n K : Nat} (h : n + 4 ≤ K) (a0 a1 a2 a3 : Int) : Le (f n a0 a1 a2 a3) (p K a0 a1 a2 a3) := by
 obtain ⟨K, rfl⟩ := pos_of_le (show 0 + 1 ≤ K by omega)
 have kl := kl n K (by omega)
 rw [e]
 unfold f b
 repeat' first | with_reducible apply Le.bind | with_reducible apply Le.ite | with_reducible exact Le.rfl | with_reducible refine kl _ ?_ _ _ _ _ _ | with_reducible refine spec_pzHidden.k ?_ _ _ | with_reducible refine spec_l1In.k ?_ _ _ _ | with_reducible intro _ | omega
end spec_MakePuzzle
namespace laws_qClues
noncomputable def p (K : Nat) (a0 a1 : List (Int × (Int × Int))) : Option Bool := PI Cx K 7 [.sv (.one (.sl 28 (.pair (.int .i64) (.pair (.int .i64) (.int .i64))) a0)), .sv (.one (.sl 28 (.pair (.int .i64) (.pair (.int .i64) (.int .i64))) a1))]
noncomputable def q0 (K m : Nat) (x0 x1 : List (Int × (Int × Int))) (x2 x3 : Int) : Option Bool := loopAt Cx K 7 [true, true, false, true, true] [] m ⟨[(0, .sv (.one (.sl 28 (.pair (.int .i64) (.pair (.int .i64) (.int .i64))) x0))), (1, .sv (.one (.sl 28 (.pair (.int .i64) (.pair (.int .i64) (.int .i64))) x1))), (12, .sv (.one (.int .i64 x2))), (13, .sv (.one (.int .i64 x3)))], [], []⟩
noncomputable def b (L0 : List (Int × (Int × Int)) → List (Int × (Int × Int)) → Int → Int → Option Bool) (a0 a1 : List (Int × (Int × Int))) : Option Bool :=
 if ((dlen a0) != (dlen a1)) = true then (some false) else (L0 a0 a1 (dlen a0) 0)
noncomputable def b0 (L0 : List (Int × (Int × Int)) → List (Int × (Int × Int)) → Int → Int → Option Bool) (x0 x1 : List (Int × (Int × Int))) (x2 x3 : Int) : Option Bool :=
 if (decide (x3 < x2)) = true then (if 0 ≤ x3 then (if x3 < (dlen x0) then (if 0 ≤ x3 then (if x3 < (dlen x1) then (if (!(((rd (0, (0, 0)) x0 x3).1 == (rd (0, (0, 0)) x1 x3).1) && (((rd (0, (0, 0)) x0 x3).2.1 == (rd (0, (0, 0)) x1 x3).2.1) && ((rd (0, (0, 0)) x0 x3).2.2 == (rd (0, (0, 0)) x1 x3).2.2)))) = true then (some false) else (L0 x0 x1 x2 (wrap64 (x3 + 1)))) else (none)) else (none)) else (none)) else (none)) else (some true)
noncomputable def l0 : Nat → List (Int × (Int × Int)) → List (Int × (Int × Int)) → Int → Int → Option Bool
 | 0, _, _, _, _ => none
 | k + 1, x0, x1, x2, x3 => b0 (l0 k) x0 x1 x2 x3
noncomputable def f (k : Nat) (a0 a1 : List (Int × (Int × Int))) : Option Bool := b (l0 k) a0 a1
theorem e (K : Nat) (a0 a1 : List (Int × (Int × Int))) : p (K + 1) a0 a1 = b (q0 K K) a0 a1 := by kernel_rfl
theorem e0 (K m : Nat) (x0 x1 : List (Int × (Int × Int))) (x2 x3 : Int) : q0 K (m + 1) x0 x1 x2 x3 = b0 (q0 K m) x0 x1 x2 x3 := by kernel_rfl
theorem kl (n : Nat) : ∀ K, n + 0 ≤ K → (∀ m, n ≤ m → ∀ (x0 x1 : List (Int × (Int × Int))) (x2 x3 : Int), Le (l0 n x0 x1 x2 x3) (q0 K m x0 x1 x2 x3)) := by
 induction n with
 | zero => exact fun K _ => fun _ _ _ _ _ _ => Le.none
 | succ n ih =>
  intro K hK
  have ih := ih K (by omega)
  intro m hm x0 x1 x2 x3
  obtain ⟨m, rfl⟩ := pos_of_le hm
  rw [e0]
  show Le (b0 (l0 n) x0 x1 x2 x3) _
  unfold b0
  repeat' first | with_reducible apply Le.bind | with_reducible apply Le.ite | with_reducible exact Le.rfl | with_reducible refine ih _ ?_ _ _ _ _ | with_reducible intro _ | omega
theorem k {n K : Nat} (h : n + 1 ≤ K) (a0 a1 : List (Int × (Int × Int))) : Le (f n a0 a1) (p K a0 a1) := by
 obtain ⟨K, rfl⟩ := pos_of_le (show 0 + 1 ≤ K by omega)
 have kl := kl n K (by omega)
 rw [e]
 unfold f b
 repeat' first | with_reducible apply Le.bind | with_reducible apply Le.ite | with_reducible exact Le.rfl | with_reducible refine kl _ ?_ _ _ _ _ | with_reducible intro _ | omega
end laws_qClues
namespace impl_IsSnail
noncomputable def p (K : Nat) (a0 a1 : Int) : Option Bool := PI Cx K 63 [.sv (.agg [.int .i64 a0, .int .i64 a1])]
noncomputable def b (g0 : Int → Int → Int → Option Bool) (a0 a1 : Int) : Option Bool :=
 (g0 a0 1 1000).bind fun t0 =>
 if t0 = true then ((g0 a1 0 1000).bind fun t1 =>
 some t1) else (some false)
noncomputable def f (a0 a1 : Int) : Option Bool := b impl_within.f a0 a1
theorem e (K : Nat) (a0 a1 : Int) : p (K + 1) a0 a1 = b (impl_within.p K) a0 a1 := by kernel_rfl
theorem k {K : Nat} (h : 2 ≤ K) (a0 a1 : Int) : Le (f a0 a1) (p K a0 a1) := by
 obtain ⟨K, rfl⟩ := pos_of_le (show 0 + 1 ≤ K by omega)
 rw [e]
 unfold f b
 repeat' first | with_reducible apply Le.bind | with_reducible apply Le.ite | with_reducible exact Le.rfl | with_reducible refine impl_within.k ?_ _ _ _ | with_reducible intro _ | omega
end impl_IsSnail
namespace impl_isWall
noncomputable def p (K : Nat) (a0 : Int) : Option Bool := PI Cx K 42 [.sv (.one (.int .i64 a0))]
noncomputable def b (g0 : Int → Int → Int → Option Bool) (a0 : Int) : Option Bool :=
 (g0 a0 1 1000000).bind fun t0 =>
 some t0
noncomputable def f (a0 : Int) : Option Bool := b impl_within.f a0
theorem e (K : Nat) (a0 : Int) : p (K + 1) a0 = b (impl_within.p K) a0 := by kernel_rfl
theorem k {K : Nat} (h : 2 ≤ K) (a0 : Int) : Le (f a0) (p K a0) := by
 obtain ⟨K, rfl⟩ := pos_of_le (show 0 + 1 ≤ K by omega)
 rw [e]
 unfold f b
 repeat' first | with_reducible apply Le.bind | with_reducible apply Le.ite | with_reducible exact Le.rfl | with_reducible refine impl_within.k ?_ _ _ _ | with_reducible intro _ | omega
end impl_isWall
namespace impl_isWalled
noncomputable def p (K : Nat) (a0 a1 a2 : Int) : Option Bool := PI Cx K 39 [.sv (.agg [.int .i64 a0, .int .i64 a1]), .sv (.one (.int .i64 a2))]
noncomputable def b (g0 : Int → Int → Option Bool) (g1 : Int → Option Bool) (a0 a1 a2 : Int) : Option Bool :=
 (g0 a0 a1).bind fun t0 =>
 if t0 = true then ((g1 a2).bind fun t1 =>
 some t1) else (some false)
noncomputable def f (a0 a1 a2 : Int) : Option Bool := b impl_IsSnail.f impl_isWall.f a0 a1 a2
theorem e (K : Nat) (a0 a1 a2 : Int) : p (K + 1) a0 a1 a2 = b (impl_IsSnail.p K) (impl_isWall.p K) a0 a1 a2 := by kernel_rfl
theorem k {K : Nat} (h : 3 ≤ K) (a0 a1 a2 : Int) : Le (f a0 a1 a2) (p K a0 a1 a2) := by
 obtain ⟨K, rfl⟩ := pos_of_le (show 0 + 1 ≤ K by omega)
 rw [e]
 unfold f b
 repeat' first | with_reducible apply Le.bind | with_reducible apply Le.ite | with_reducible exact Le.rfl | with_reducible refine impl_IsSnail.k ?_ _ _ | with_reducible refine impl_isWall.k ?_ _ | with_reducible intro _ | omega
end impl_isWalled
namespace impl_DaysToTop
noncomputable def p (K : Nat) (a0 a1 a2 : Int) : Option (Int × Bool) := PI Cx K 8 [.sv (.agg [.int .i64 a0, .int .i64 a1]), .sv (.one (.int .i64 a2))]
noncomputable def b (g0 : Int → Int → Int → Option Bool) (g1 : Int → Int → Int → Option Int) (a0 a1 a2 : Int) : Option (Int × Bool) :=
 (g0 a0 a1 a2).bind fun t0 =>
 if (!t0) = true then (some (0, false)) else ((g1 a0 a1 a2).bind fun t1 =>
 some (t1, (decide (t1 > 0))))
noncomputable def f (a0 a1 a2 : Int) : Option (Int × Bool) := b impl_isWalled.f impl_dayOfHeight.f a0 a1 a2
theorem e (K : Nat) (a0 a1 a2 : Int) : p (K + 1) a0 a1 a2 = b (impl_isWalled.p K) (impl_dayOfHeight.p K) a0 a1 a2 := by kernel_rfl
theorem k {K : Nat} (h : 4 ≤ K) (a0 a1 a2 : Int) : Le (f a0 a1 a2) (p K a0 a1 a2) := by
 obtain ⟨K, rfl⟩ := pos_of_le (show 0 + 1 ≤ K by omega)
 rw [e]
 unfold f b
 repeat' first | with_reducible apply Le.bind | with_reducible apply Le.ite | with_reducible exact Le.rfl | with_reducible refine impl_isWalled.k ?_ _ _ _ | with_reducible refine impl_dayOfHeight.k ?_ _ _ _ | with_reducible intro _ | omega
end impl_DaysToTop
namespace impl_IsClue
noncomputable def p (K : Nat) (a0 a1 a2 : Int) : Option Bool := PI Cx K 23 [.sv (.agg [.int .i64 a0, .int .i64 a1, .int .i64 a2])]
noncomputable def b (g0 : Int → Int → Int → Option Bool) (a0 a1 a2 : Int) : Option Bool :=
 if (a0 == 0) = true then ((g0 a1 1 100).bind fun t0 =>
 if t0 = true then ((g0 a2 0 100).bind fun t1 =>
 some t1) else (some false)) else (if (a0 == 1) = true then ((g0 a1 1 100).bind fun t0 =>
 if t0 = true then ((g0 a2 1 100).bind fun t1 =>
 some t1) else (some false)) else (if (a0 == 2) = true then (if (a1 == 0) = true then ((g0 a2 0 24).bind fun t0 =>
 some t0) else (some false)) else (if (a0 == 3) = true then ((g0 a1 2 9).bind fun t0 =>
 if t0 = true then ((g0 a2 0 1).bind fun t1 =>
 some t1) else (some false)) else (if (a0 == 4) = true then (if (a1 == 0) = true then ((g0 a2 (-12) 12).bind fun t0 =>
 some t0) else (some false)) else (some false)))))
noncomputable def f (a0 a1 a2 : Int) : Option Bool := b impl_within.f a0 a1 a2
theorem e (K : Nat) (a0 a1 a2 : Int) : p (K + 1) a0 a1 a2 = b (impl_within.p K) a0 a1 a2 := by kernel_rfl
theorem k {K : Nat} (h : 2 ≤ K) (a0 a1 a2 : Int) : Le (f a0 a1 a2) (p K a0 a1 a2) := by
 obtain ⟨K, rfl⟩ := pos_of_le (show 0 + 1 ≤ K by omega)
 rw [e]
 unfold f b
 repeat' first | with_reducible apply Le.bind | with_reducible apply Le.ite | with_reducible exact Le.rfl | with_reducible refine impl_within.k ?_ _ _ _ | with_reducible intro _ | omega
end impl_IsClue
namespace impl_doesFit
noncomputable def p (K : Nat) (a0 a1 a2 a3 a4 : Int) : Option Bool := PI Cx K 41 [.sv (.agg [.int .i64 a0, .int .i64 a1, .int .i64 a2]), .sv (.agg [.int .i64 a3, .int .i64 a4])]
noncomputable def b (g0 : Int → Int → Int → Int → Int → Option Int) (a0 a1 a2 a3 a4 : Int) : Option Bool :=
 (g0 a0 a1 a2 a3 a4).bind fun t0 =>
 some (t0 == a2)
noncomputable def f (a0 a1 a2 a3 a4 : Int) : Option Bool := b impl_toldBy.f a0 a1 a2 a3 a4
theorem e (K : Nat) (a0 a1 a2 a3 a4 : Int) : p (K + 1) a0 a1 a2 a3 a4 = b (impl_toldBy.p K) a0 a1 a2 a3 a4 := by kernel_rfl
theorem k {K : Nat} (h : 4 ≤ K) (a0 a1 a2 a3 a4 : Int) : Le (f a0 a1 a2 a3 a4) (p K a0 a1 a2 a3 a4) := by
 obtain ⟨K, rfl⟩ := pos_of_le (show 0 + 1 ≤ K by omega)
 rw [e]
 unfold f b
 repeat' first | with_reducible apply Le.bind | with_reducible apply Le.ite | with_reducible exact Le.rfl | with_reducible refine impl_toldBy.k ?_ _ _ _ _ _ | with_reducible intro _ | omega
end impl_doesFit
namespace impl_DoesFit
noncomputable def p (K : Nat) (a0 a1 a2 a3 a4 : Int) : Option (Bool × Bool) := PI Cx K 9 [.sv (.agg [.int .i64 a0, .int .i64 a1, .int .i64 a2]), .sv (.agg [.int .i64 a3, .int .i64 a4])]
noncomputable def b (g0 : Int → Int → Int → Option Bool) (g1 : Int → Int → Option Bool) (g2 : Int → Int → Int → Int → Int → Option Bool) (a0 a1 a2 a3 a4 : Int) : Option (Bool × Bool) :=
 (g0 a0 a1 a2).bind fun t0 =>
 if (!t0) = true then (some (false, false)) else ((g1 a3 a4).bind fun t1 =>
 if (!t1) = true then (some (false, false)) else ((g2 a0 a1 a2 a3 a4).bind fun t2 =>
 some (t2, true)))
noncomputable def f (a0 a1 a2 a3 a4 : Int) : Option (Bool × Bool) := b impl_IsClue.f impl_isHidden.f impl_doesFit.f a0 a1 a2 a3 a4
theorem e (K : Nat) (a0 a1 a2 a3 a4 : Int) : p (K + 1) a0 a1 a2 a3 a4 = b (impl_IsClue.p K) (impl_isHidden.p K) (impl_doesFit.p K) a0 a1 a2 a3 a4 := by kernel_rfl
theorem k {K : Nat} (h : 5 ≤ K) (a0 a1 a2 a3 a4 : Int) : Le (f a0 a1 a2 a3 a4) (p K a0 a1 a2 a3 a4) := by
 obtain ⟨K, rfl⟩ := pos_of_le (show 0 + 1 ≤ K by omega)
 rw [e]
 unfold f b
 repeat' first | with_reducible apply Le.bind | with_reducible apply Le.ite | with_reducible exact Le.rfl | with_reducible refine impl_IsClue.k ?_ _ _ _ | with_reducible refine impl_isHidden.k ?_ _ _ | with_reducible refine impl_doesFit.k ?_ _ _ _ _ _ | with_reducible intro _ | omega
end impl_DoesFit
namespace impl_EveningHeight
noncomputable def p (K : Nat) (a0 a1 a2 a3 : Int) : Option (Int × Bool) := PI Cx K 10 [.sv (.agg [.int .i64 a0, .int .i64 a1]), .sv (.one (.int .i64 a2)), .sv (.one (.int .i64 a3))]
noncomputable def b (g0 : Int → Int → Int → Option Bool) (g1 : Int → Option Bool) (g2 : Int → Int → Int → Int → Option Int) (a0 a1 a2 a3 : Int) : Option (Int × Bool) :=
 (g0 a0 a1 a2).bind fun t0 =>
 if (!t0) = true then (some (0, false)) else ((g1 a3).bind fun t1 =>
 if (!t1) = true then (some (0, false)) else ((g2 a0 a1 a2 a3).bind fun t2 =>
 some (t2, true)))
noncomputable def f (a0 a1 a2 a3 : Int) : Option (Int × Bool) := b impl_isWalled.f impl_isWall.f impl_eveningHeight.f a0 a1 a2 a3
theorem e (K : Nat) (a0 a1 a2 a3 : Int) : p (K + 1) a0 a1 a2 a3 = b (impl_isWalled.p K) (impl_isWall.p K) (impl_eveningHeight.p K) a0 a1 a2 a3 := by kernel_rfl
theorem k {K : Nat} (h : 4 ≤ K) (a0 a1 a2 a3 : Int) : Le (f a0 a1 a2 a3) (p K a0 a1 a2 a3) := by
 obtain ⟨K, rfl⟩ := pos_of_le (show 0 + 1 ≤ K by omega)
 rw [e]
 unfold f b
 repeat' first | with_reducible apply Le.bind | with_reducible apply Le.ite | with_reducible exact Le.rfl | with_reducible refine impl_isWalled.k ?_ _ _ _ | with_reducible refine impl_isWall.k ?_ _ | with_reducible refine impl_eveningHeight.k ?_ _ _ _ _ | with_reducible intro _ | omega
end impl_EveningHeight
namespace impl_IsPuzzle_1
noncomputable def p (K : Nat) (a0 a1 a2 : Int) : Option Bool := PI Cx K 45 [.sv (.agg [.int .i64 a0, .int .i64 a1, .int .i64 a2])]
noncomputable def b (g0 : Int → Int → Int → Option Bool) (a0 a1 a2 : Int) : Option Bool :=
 (g0 a0 a1 a2).bind fun t0 =>
 some (!t0)
noncomputable def f (a0 a1 a2 : Int) : Option Bool := b impl_IsClue.f a0 a1 a2
theorem e (K : Nat) (a0 a1 a2 : Int) : p (K + 1) a0 a1 a2 = b (impl_IsClue.p K) a0 a1 a2 := by kernel_rfl
theorem k {K : Nat} (h : 3 ≤ K) (a0 a1 a2 : Int) : Le (f a0 a1 a2) (p K a0 a1 a2) := by
 obtain ⟨K, rfl⟩ := pos_of_le (show 0 + 1 ≤ K by omega)
 rw [e]
 unfold f b
 repeat' first | with_reducible apply Le.bind | with_reducible apply Le.ite | with_reducible exact Le.rfl | with_reducible refine impl_IsClue.k ?_ _ _ _ | with_reducible intro _ | omega
end impl_IsPuzzle_1
namespace slices_IndexFunc_impl_Clue_impl_Clue_impl_IsPuzzle_1
noncomputable def p (K : Nat) (a0 : List (Int × (Int × Int))) : Option Int := PI Cx K 65 [.sv (.one (.sl 28 (.pair (.int .i64) (.pair (.int .i64) (.int .i64))) a0)), .sv (.one (.fn 45 []))]
noncomputable def q0 (K m : Nat) (x0 : List (Int × (Int × Int))) (x1 x2 : Int) : Option Int := loopAt Cx K 65 [true, false, true, true] [] m ⟨[(0, .sv (.one (.sl 28 (.pair (.int .i64) (.pair (.int .i64) (.int .i64))) x0))), (1, .sv (.one (.fn 45 []))), (7, .sv (.one (.int .i64 x1))), (8, .sv (.one (.int .i64 x2)))], [], []⟩
noncomputable def b (L0 : List (Int × (Int × Int)) → Int → Int → Option Int) (a0 : List (Int × (Int × Int))) : Option Int :=
 L0 a0 (dlen a0) 0
noncomputable def b0 (L0 : List (Int × (Int × Int)) → Int → Int → Option Int) (g0 : Int → Int → Int → Option Bool) (x0 : List (Int × (Int × Int))) (x1 x2 : Int) : Option Int :=
 if (decide (x2 < x1)) = true then (if 0 ≤ x2 then (if x2 < (dlen x0) then ((g0 (rd (0, (0, 0)) x0 x2).1 (rd (0, (0, 0)) x0 x2).2.1 (rd (0, (0, 0)) x0 x2).2.2).bind fun t0 =>
 if t0 = true then (some x2) else (L0 x0 x1 (wrap64 (x2 + 1)))) else (none)) else (none)) else (some (-1))
noncomputable def l0 : Nat → List (Int × (Int × Int)) → Int → Int → Option Int
 | 0, _, _, _ => none
 | k + 1, x0, x1, x2 => b0 (l0 k) impl_IsPuzzle_1.f x0 x1 x2
noncomputable def f (k : Nat) (a0 : List (Int × (Int × Int))) : Option Int := b (l0 k) a0
theorem e (K : Nat) (a0 : List (Int × (Int × Int))) : p (K + 1) a0 = b (q0 K K) a0 := by kernel_rfl
theorem e0 (K m : Nat) (x0 : List (Int × (Int × Int))) (x1 x2 : Int) : q0 K (m + 1) x0 x1 x2 = b0 (q0 K m) (impl_IsPuzzle_1.p K) x0 x1 x2 := by kernel_rfl
theorem kl (n : Nat) : ∀ K, n + 3 ≤ K → (∀ m, n ≤ m → ∀ (x0 : List (Int × (Int × Int))) (x1 x2 : Int), Le (l0 n x0 x1 x2) (q0 K m x0 x1 x2)) := by
 induction n with
 | zero => exact fun K _ => fun _ _ _ _ _ => Le.none
 | succ n ih =>
  intro K hK
  have ih := ih K (by omega)
  intro m hm x0 x1 x2
  obtain ⟨m, rfl⟩ := pos_of_le hm
  rw [e0]
  show Le (b0 (l0 n) impl_IsPuzzle_1.f x0 x1 x2) _
  unfold b0
  repeat' first | with_reducible apply Le.bind | with_reducible apply Le.ite | with_reducible exact Le.rfl | with_reducible refine ih _ ?_ _ _ _ | with_reducible refine impl_IsPuzzle_1.k ?_ _ _ _ | with_reducible intro _ | omega
theorem k {n K : Nat} (h : n + 4 ≤ K) (a0 : List (Int × (Int × Int))) : Le (f n a0) (p K a0) := by
 obtain ⟨K, rfl⟩ := pos_of_le (show 0 + 1 ≤ K by omega)
 have kl := kl n K (by omega)
 rw [e]
 unfold f b
 repeat' first | with_reducible apply Le.bind | with_reducible apply Le.ite | with_reducible exact Le.rfl | with_reducible refine kl _ ?_ _ _ _ | with_reducible intro _ | omega
end slices_IndexFunc_impl_Clue_impl_Clue_impl_IsPuzzle_1
namespace slices_ContainsFunc_impl_Clue_impl_Clue_impl_IsPuzzle_1
noncomputable def p (K : Nat) (a0 : List (Int × (Int × Int))) : Option Bool := PI Cx K 44 [.sv (.one (.sl 28 (.pair (.int .i64) (.pair (.int .i64) (.int .i64))) a0)), .sv (.one (.fn 45 []))]
noncomputable def b (g0 : List (Int × (Int × Int)) → Option Int) (a0 : List (Int × (Int × Int))) : Option Bool :=
 (g0 a0).bind fun t0 =>
 some (decide (t0 ≥ 0))
noncomputable def f (k : Nat) (a0 : List (Int × (Int × Int))) : Option Bool := b (slices_IndexFunc_impl_Clue_impl_Clue_impl_IsPuzzle_1.f k) a0
theorem e (K : Nat) (a0 : List (Int × (Int × Int))) : p (K + 1) a0 = b (slices_IndexFunc_impl_Clue_impl_Clue_impl_IsPuzzle_1.p K) a0 := by kernel_rfl
theorem k {n K : Nat} (h : n + 5 ≤ K) (a0 : List (Int × (Int × Int))) : Le (f n a0) (p K a0) := by
 obtain ⟨K, rfl⟩ := pos_of_le (show 0 + 1 ≤ K by omega)
 rw [e]
 unfold f b
 repeat' first | with_reducible apply Le.bind | with_reducible apply Le.ite | with_reducible exact Le.rfl | with_reducible refine slices_IndexFunc_impl_Clue_impl_Clue_impl_IsPuzzle_1.k ?_ _ | with_reducible intro _ | omega
end slices_ContainsFunc_impl_Clue_impl_Clue_impl_IsPuzzle_1
namespace impl_IsPuzzle
noncomputable def p (K : Nat) (a0 : List (Int × (Int × Int))) : Option Bool := PI Cx K 11 [.sv (.agg [.sl 28 (.pair (.int .i64) (.pair (.int .i64) (.int .i64))) a0])]
noncomputable def b (g0 : List (Int × (Int × Int)) → Option Bool) (a0 : List (Int × (Int × Int))) : Option Bool :=
 if (decide ((dlen a0) ≤ 6)) = true then ((g0 a0).bind fun t0 =>
 some (!t0)) else (some false)
noncomputable def f (k : Nat) (a0 : List (Int × (Int × Int))) : Option Bool := b (slices_ContainsFunc_impl_Clue_impl_Clue_impl_IsPuzzle_1.f k) a0
theorem e (K : Nat) (a0 : List (Int × (Int × Int))) : p (K + 1) a0 = b (slices_ContainsFunc_impl_Clue_impl_Clue_impl_IsPuzzle_1.p K) a0 := by kernel_rfl
theorem k {n K : Nat} (h : n + 6 ≤ K) (a0 : List (Int × (Int × Int))) : Le (f n a0) (p K a0) := by
 obtain ⟨K, rfl⟩ := pos_of_le (show 0 + 1 ≤ K by omega)
 rw [e]
 unfold f b
 repeat' first | with_reducible apply Le.bind | with_reducible apply Le.ite | with_reducible exact Le.rfl | with_reducible refine slices_ContainsFunc_impl_Clue_impl_Clue_impl_IsPuzzle_1.k ?_ _ | with_reducible intro _ | omega
end impl_IsPuzzle
namespace spec_l1Cur_surePuzzle
noncomputable def p (K : Nat) (a0 : List Int) (a1 a2 a3 : Int) : Option ((List (Int × (Int × Int))) × ((List Int) × (Int × Int))) := PI Cx K 71 [.sv (.agg [.sl 5 (.int .u8) a0, .int .i64 a1, .int .u64 a2]), .sv (.one (.int .i64 a3))]
noncomputable def b (g0 : List Int → Int → Int → Option ((Int × Int) × ((List Int) × (Int × Int)))) (g1 : List Int → Int → Int → Int → Option (Int × ((List Int) × (Int × Int)))) (g2 : Int → Int → Int → Int → Option ((List (Int × (Int × Int))) × Bool)) (a0 : List Int) (a1 a2 a3 : Int) : Option ((List (Int × (Int × Int))) × ((List Int) × (Int × Int))) :=
 (g0 a0 a1 a2).bind fun t0 =>
 (g1 t0.2.1 t0.2.2.1 t0.2.2.2 (wrap64 (a3 + 1))).bind fun t1 =>
 (g1 t1.2.1 t1.2.2.1 t1.2.2.2 10000).bind fun t2 =>
 (g2 t0.1.1 t0.1.2 t1.1 t2.1).bind fun t3 =>
 some (t3.1, t2.2)
noncomputable def f (k : Nat) (a0 : List Int) (a1 a2 a3 : Int) : Option ((List (Int × (Int × Int))) × ((List Int) × (Int × Int))) := b spec_l1Cur_hidden.f spec_l1Cur_pick.f (spec_MakePuzzle.f k) a0 a1 a2 a3
theorem e (K : Nat) (a0 : List Int) (a1 a2 a3 : Int) : p (K + 1) a0 a1 a2 a3 = b (spec_l1Cur_hidden.p K) (spec_l1Cur_pick.p K) (spec_MakePuzzle.p K) a0 a1 a2 a3 := by kernel_rfl
theorem k {n K : Nat} (h : n + 5 ≤ K) (a0 : List Int) (a1 a2 a3 : Int) : Le (f n a0 a1 a2 a3) (p K a0 a1 a2 a3) := by
 obtain ⟨K, rfl⟩ := pos_of_le (show 0 + 1 ≤ K by omega)
 rw [e]
 unfold f b
 repeat' first | with_reducible apply Le.bind | with_reducible apply Le.ite | with_reducible exact Le.rfl | with_reducible refine spec_l1Cur_hidden.k ?_ _ _ _ | with_reducible refine spec_l1Cur_pick.k ?_ _ _ _ _ | with_reducible refine spec_MakePuzzle.k ?_ _ _ _ _ | with_reducible intro _ | omega
end spec_l1Cur_surePuzzle
namespace spec_l1Cur_clue
noncomputable def p (K : Nat) (a0 : List Int) (a1 a2 : Int) : Option ((Int × (Int × Int)) × ((List Int) × (Int × Int))) := PI Cx K 60 [.sv (.agg [.sl 5 (.int .u8) a0, .int .i64 a1, .int .u64 a2])]
noncomputable def b (g0 : List Int → Int → Int → Int → Option (Int × ((List Int) × (Int × Int)))) (g1 : List Int → Int → Int → Int → Option (Bool × ((List Int) × (Int × Int)))) (a0 : List Int) (a1 a2 : Int) : Option ((Int × (Int × Int)) × ((List Int) × (Int × Int))) :=
 (g0 a0 a1 a2 5).bind fun t0 =>
 (g0 t0.2.1 t0.2.2.1 t0.2.2.2 9).bind fun t1 =>
 (g0 t1.2.1 t1.2.2.1 t1.2.2.2 12).bind fun t2 =>
 (g0 t2.2.1 t2.2.2.1 t2.2.2.2 9).bind fun t3 =>
 if (decide ((wrap64 (t0.1 + (wrap64 (Int.tdiv t1.1 8)))) < 2)) = true then ((g0 t3.2.1 t3.2.2.1 t3.2.2.2 20).bind fun t4 =>
 (g0 t4.2.1 t4.2.2.1 t4.2.2.2 9).bind fun t5 =>
 if ((wrap64 (t0.1 + (wrap64 (Int.tdiv t1.1 8)))) == 3) = true then ((g0 t5.2.1 t5.2.2.1 t5.2.2.2 10).bind fun t6 =>
 (g0 t6.2.1 t6.2.2.1 t6.2.2.2 3).bind fun t7 =>
 some (((wrap64 (t0.1 + (wrap64 (Int.tdiv t1.1 8)))), ((wrap64 (1 + t6.1)), t7.1)), t7.2)) else (some (((wrap64 (t0.1 + (wrap64 (Int.tdiv t1.1 8)))), ((wrap64 ((wrap64 (1 + t4.1)) - (wrap64 (Int.tdiv t5.1 8)))), (wrap64 (t2.1 - (wrap64 (Int.tdiv t3.1 8)))))), t5.2))) else (if ((wrap64 (t0.1 + (wrap64 (Int.tdiv t1.1 8)))) == 3) = true then ((g0 t3.2.1 t3.2.2.1 t3.2.2.2 20).bind fun t4 =>
 (g0 t4.2.1 t4.2.2.1 t4.2.2.2 9).bind fun t5 =>
 if ((wrap64 (t0.1 + (wrap64 (Int.tdiv t1.1 8)))) == 3) = true then ((g0 t5.2.1 t5.2.2.1 t5.2.2.2 10).bind fun t6 =>
 (g0 t6.2.1 t6.2.2.1 t6.2.2.2 3).bind fun t7 =>
 some (((wrap64 (t0.1 + (wrap64 (Int.tdiv t1.1 8)))), ((wrap64 (1 + t6.1)), t7.1)), t7.2)) else (some (((wrap64 (t0.1 + (wrap64 (Int.tdiv t1.1 8)))), ((wrap64 ((wrap64 (1 + t4.1)) - (wrap64 (Int.tdiv t5.1 8)))), (wrap64 (t2.1 - (wrap64 (Int.tdiv t3.1 8)))))), t5.2))) else ((g1 t3.2.1 t3.2.2.1 t3.2.2.2 10).bind fun t4 =>
 if t4.1 = true then ((g0 t4.2.1 t4.2.2.1 t4.2.2.2 20).bind fun t5 =>
 (g0 t5.2.1 t5.2.2.1 t5.2.2.2 9).bind fun t6 =>
 if ((wrap64 (t0.1 + (wrap64 (Int.tdiv t1.1 8)))) == 3) = true then ((g0 t6.2.1 t6.2.2.1 t6.2.2.2 10).bind fun t7 =>
 (g0 t7.2.1 t7.2.2.1 t7.2.2.2 3).bind fun t8 =>
 some (((wrap64 (t0.1 + (wrap64 (Int.tdiv t1.1 8)))), ((wrap64 (1 + t7.1)), t8.1)), t8.2)) else (some (((wrap64 (t0.1 + (wrap64 (Int.tdiv t1.1 8)))), ((wrap64 ((wrap64 (1 + t5.1)) - (wrap64 (Int.tdiv t6.1 8)))), (wrap64 (t2.1 - (wrap64 (Int.tdiv t3.1 8)))))), t6.2))) else (if ((wrap64 (t0.1 + (wrap64 (Int.tdiv t1.1 8)))) == 3) = true then ((g0 t4.2.1 t4.2.2.1 t4.2.2.2 10).bind fun t5 =>
 (g0 t5.2.1 t5.2.2.1 t5.2.2.2 3).bind fun t6 =>
 some (((wrap64 (t0.1 + (wrap64 (Int.tdiv t1.1 8)))), ((wrap64 (1 + t5.1)), t6.1)), t6.2)) else (some (((wrap64 (t0.1 + (wrap64 (Int.tdiv t1.1 8)))), (0, (wrap64 (t2.1 - (wrap64 (Int.tdiv t3.1 8)))))), t4.2)))))
noncomputable def f (a0 : List Int) (a1 a2 : Int) : Option ((Int × (Int × Int)) × ((List Int) × (Int × Int))) := b spec_l1Cur_pick.f spec_l1Cur_one.f a0 a1 a2
theorem e (K : Nat) (a0 : List Int) (a1 a2 : Int) : p (K + 1) a0 a1 a2 = b (spec_l1Cur_pick.p K) (spec_l1Cur_one.p K) a0 a1 a2 := by kernel_rfl
theorem k {K : Nat} (h : 4 ≤ K) (a0 : List Int) (a1 a2 : Int) : Le (f a0 a1 a2) (p K a0 a1 a2) := by
 obtain ⟨K, rfl⟩ := pos_of_le (show 0 + 1 ≤ K by omega)
 rw [e]
 unfold f b
 repeat' first | with_reducible apply Le.bind | with_reducible apply Le.ite | with_reducible exact Le.rfl | with_reducible refine spec_l1Cur_pick.k ?_ _ _ _ _ | with_reducible refine spec_l1Cur_one.k ?_ _ _ _ _ | with_reducible intro _ | omega
end spec_l1Cur_clue
end Go.Proofs.Ytnpfeemkichniaa.Hi
