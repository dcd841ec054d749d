import Derived.Test.YtnpfeemkichniaaHiF1
namespace Go.Proofs.Ytnpfeemkichniaa.Hi
open Go Go.Proofs.YtnpfeemkichniaaPi Go.RowKit
set_option maxRecDepth 100000
set_option linter.unusedVariables false
namespace spec_DrawDoesFit
noncomputable def p (K : Nat) (a0 : List Int) : Option ((Int × (Int × Int)) × (Int × Int)) := PI Cx K 30 [.sv (.one (.sl 5 (.int .u8) a0))]
noncomputable def b (g0 : List Int → Int → Int → Option ((Int × Int) × ((List Int) × (Int × Int)))) (g1 : List Int → Int → Int → Int → Option (Int × ((List Int) × (Int × Int)))) (g2 : Int → Int → Int → Int → Option ((List (Int × (Int × Int))) × Bool)) (g3 : List Int → Int → Int → Int → Option (Bool × ((List Int) × (Int × Int)))) (g4 : List Int → Int → Int → Option ((Int × Int) × ((List Int) × (Int × Int)))) (g5 : List Int → Int → Int → Option ((Int × (Int × Int)) × ((List Int) × (Int × Int)))) (a0 : List Int) : Option ((Int × (Int × Int)) × (Int × Int)) :=
 (g0 a0 0 0).bind fun t0 =>
 (g1 t0.2.1 t0.2.2.1 t0.2.2.2 10000).bind fun t1 =>
 (g2 t0.1.1 t0.1.2 1 t1.1).bind fun t2 =>
 if t2.2 = true then ((g3 t1.2.1 t1.2.2.1 t1.2.2.2 3).bind fun t3 =>
 if t3.1 = true then (if 0 < (dlen t2.1) then (some ((rd (0, (0, 0)) t2.1 0), t0.1)) else (none)) else ((g3 t3.2.1 t3.2.2.1 t3.2.2.2 10).bind fun t4 =>
 if t4.1 = true then ((g4 t4.2.1 t4.2.2.1 t4.2.2.2).bind fun t5 =>
 (g5 t5.2.1 t5.2.2.1 t5.2.2.2).bind fun t6 =>
 some (t6.1, t5.1)) else ((g5 t4.2.1 t4.2.2.1 t4.2.2.2).bind fun t5 =>
 some (t5.1, t0.1)))) else ((g3 t1.2.1 t1.2.2.1 t1.2.2.2 10).bind fun t3 =>
 if t3.1 = true then ((g4 t3.2.1 t3.2.2.1 t3.2.2.2).bind fun t4 =>
 (g5 t4.2.1 t4.2.2.1 t4.2.2.2).bind fun t5 =>
 some (t5.1, t4.1)) else ((g5 t3.2.1 t3.2.2.1 t3.2.2.2).bind fun t4 =>
 some (t4.1, t0.1)))
noncomputable def f (k : Nat) (a0 : List Int) : Option ((Int × (Int × Int)) × (Int × Int)) := b spec_l1Cur_hidden.f spec_l1Cur_pick.f (spec_MakePuzzle.f k) spec_l1Cur_one.f spec_l1Cur_snail.f spec_l1Cur_clue.f a0
theorem e (K : Nat) (a0 : List Int) : p (K + 1) a0 = b (spec_l1Cur_hidden.p K) (spec_l1Cur_pick.p K) (spec_MakePuzzle.p K) (spec_l1Cur_one.p K) (spec_l1Cur_snail.p K) (spec_l1Cur_clue.p K) a0 := by kernel_rfl
theorem k {n K : Nat} (h : n + 6 ≤ K) (a0 : List Int) : Le (f n a0) (p K a0) := by
 obtain ⟨K, rfl⟩ := pos_of_le (show 0 + 1 ≤ K by omega)
 rw [e]
 unfold f b
 repeat' first | with_reducible apply Le.bind | with_reducible apply Le.ite | with_reducible exact Le.rfl | with_reducible refine spec_l1Cur_hidden.k ?_ _ _ _ | with_reducible refine spec_l1Cur_pick.k ?_ _ _ _ _ | with_reducible refine spec_MakePuzzle.k ?_ _ _ _ _ | with_reducible refine spec_l1Cur_one.k ?_ _ _ _ _ | with_reducible refine spec_l1Cur_snail.k ?_ _ _ _ | with_reducible refine spec_l1Cur_clue.k ?_ _ _ _ | with_reducible intro _ | omega
end spec_DrawDoesFit
namespace spec_DoesFit
noncomputable def p (K : Nat) (a0 a1 a2 a3 a4 : Int) : Option (Bool × Bool) := PI Cx K 22 [.sv (.agg [.int .i64 a0, .int .i64 a1, .int .i64 a2]), .sv (.agg [.int .i64 a3, .int .i64 a4])]
noncomputable def b (g0 : Int → Int → Option Bool) (g1 : Int → Int → Int → Option Bool) (g2 : Int → Int → Int → Int → Int → Option Bool) (a0 a1 a2 a3 a4 : Int) : Option (Bool × Bool) :=
 (g0 a3 a4).bind fun t0 =>
 if (!t0) = true then (some (false, false)) else ((g1 a0 a1 a2).bind fun t1 =>
 if (!t1) = true then (some (false, false)) else ((g2 a0 a1 a2 a3 a4).bind fun t2 =>
 some (t2, true)))
noncomputable def f (a0 a1 a2 a3 a4 : Int) : Option (Bool × Bool) := b spec_pzHidden.f spec_pzClue.f spec_pzFits.f a0 a1 a2 a3 a4
theorem e (K : Nat) (a0 a1 a2 a3 a4 : Int) : p (K + 1) a0 a1 a2 a3 a4 = b (spec_pzHidden.p K) (spec_pzClue.p K) (spec_pzFits.p K) a0 a1 a2 a3 a4 := by kernel_rfl
theorem k {K : Nat} (h : 4 ≤ K) (a0 a1 a2 a3 a4 : Int) : Le (f a0 a1 a2 a3 a4) (p K a0 a1 a2 a3 a4) := by
 obtain ⟨K, rfl⟩ := pos_of_le (show 0 + 1 ≤ K by omega)
 rw [e]
 unfold f b
 repeat' first | with_reducible apply Le.bind | with_reducible apply Le.ite | with_reducible exact Le.rfl | with_reducible refine spec_pzHidden.k ?_ _ _ | with_reducible refine spec_pzClue.k ?_ _ _ _ | with_reducible refine spec_pzFits.k ?_ _ _ _ _ _ | with_reducible intro _ | omega
end spec_DoesFit
namespace spec_DrawIsClue
noncomputable def p (K : Nat) (a0 : List Int) : Option (Int × (Int × Int)) := PI Cx K 31 [.sv (.one (.sl 5 (.int .u8) a0))]
noncomputable def b (g0 : List Int → Int → Int → Int → Option (Bool × ((List Int) × (Int × Int)))) (g1 : List Int → Int → Int → Int → Option (Int × ((List Int) × (Int × Int)))) (g2 : List Int → Int → Int → List Int → Option (Int × ((List Int) × (Int × Int)))) (g3 : List Int → Int → Int → Option ((Int × (Int × Int)) × ((List Int) × (Int × Int)))) (a0 : List Int) : Option (Int × (Int × Int)) :=
 (g0 a0 0 0 3).bind fun t0 =>
 if t0.1 = true then ((g1 t0.2.1 t0.2.2.1 t0.2.2.2 6).bind fun t1 =>
 (g1 t1.2.1 t1.2.2.1 t1.2.2.2 9).bind fun t2 =>
 (g2 t2.2.1 t2.2.2.1 t2.2.2.2 [(-1), 0, 0, 1, 2, 9, 10, 100, 101, 4611686018427387904]).bind fun t3 =>
 (g2 t3.2.1 t3.2.2.1 t3.2.2.2 [(-13), (-12), (-1), 0, 1, 2, 12, 13, 24, 25, 100, 101]).bind fun t4 =>
 some ((wrap64 (t1.1 - (wrap64 (Int.tdiv t2.1 8)))), (t3.1, t4.1))) else ((g3 t0.2.1 t0.2.2.1 t0.2.2.2).bind fun t1 =>
 some t1.1)
noncomputable def f (a0 : List Int) : Option (Int × (Int × Int)) := b spec_l1Cur_one.f spec_l1Cur_pick.f spec_l1Cur_among.f spec_l1Cur_clue.f a0
theorem e (K : Nat) (a0 : List Int) : p (K + 1) a0 = b (spec_l1Cur_one.p K) (spec_l1Cur_pick.p K) (spec_l1Cur_among.p K) (spec_l1Cur_clue.p K) a0 := by kernel_rfl
theorem k {K : Nat} (h : 5 ≤ K) (a0 : List Int) : Le (f a0) (p K a0) := by
 obtain ⟨K, rfl⟩ := pos_of_le (show 0 + 1 ≤ K by omega)
 rw [e]
 unfold f b
 repeat' first | with_reducible apply Le.bind | with_reducible apply Le.ite | with_reducible exact Le.rfl | with_reducible refine spec_l1Cur_one.k ?_ _ _ _ _ | with_reducible refine spec_l1Cur_pick.k ?_ _ _ _ _ | with_reducible refine spec_l1Cur_among.k ?_ _ _ _ _ | with_reducible refine spec_l1Cur_clue.k ?_ _ _ _ | with_reducible intro _ | omega
end spec_DrawIsClue
namespace spec_IsClue
noncomputable def p (K : Nat) (a0 a1 a2 : Int) : Option Bool := PI Cx K 24 [.sv (.agg [.int .i64 a0, .int .i64 a1, .int .i64 a2])]
noncomputable def b (g0 : Int → Int → Int → Option Bool) (a0 a1 a2 : Int) : Option Bool :=
 (g0 a0 a1 a2).bind fun t0 =>
 some t0
noncomputable def f (a0 a1 a2 : Int) : Option Bool := b spec_pzClue.f a0 a1 a2
theorem e (K : Nat) (a0 a1 a2 : Int) : p (K + 1) a0 a1 a2 = b (spec_pzClue.p K) a0 a1 a2 := by kernel_rfl
theorem k {K : Nat} (h : 3 ≤ K) (a0 a1 a2 : Int) : Le (f a0 a1 a2) (p K a0 a1 a2) := by
 obtain ⟨K, rfl⟩ := pos_of_le (show 0 + 1 ≤ K by omega)
 rw [e]
 unfold f b
 repeat' first | with_reducible apply Le.bind | with_reducible apply Le.ite | with_reducible exact Le.rfl | with_reducible refine spec_pzClue.k ?_ _ _ _ | with_reducible intro _ | omega
end spec_IsClue
namespace laws_FnSnailsHidden
noncomputable def p (K : Nat) (a0 a1 : List Int) : Option Bool := PI Cx K 4 [.sv (.one (.sl 5 (.int .u8) a0)), .sv (.one (.sl 5 (.int .u8) a1))]
noncomputable def q0 (K m : Nat) (x0 : List Int) (x1 : List (Int × (Int × Int))) (x2 x3 x4 x5 : Int) : Option Bool := loopAt Cx K 4 [true, true, true, true, true, true, false, true, false, true, true, true, true, true, true, true, true] [] m ⟨[(1, .sv (.one (.sl 5 (.int .u8) x0))), (5, .sv (.one (.ptr 3006000 0))), (179, .sv (.one (.sl 28 (.pair (.int .i64) (.pair (.int .i64) (.int .i64))) x1))), (180, .sv (.one (.int .i64 x2))), (181, .sv (.one (.int .i64 x3)))], [(3006000, .box 23 [.int .i64 x4, .int .i64 x5])], []⟩
noncomputable def b (L0 : List Int → List (Int × (Int × Int)) → Int → Int → Int → Int → Option Bool) (g0 : List Int → List Int → Option Bool) (g1 : List Int → Option ((Int × Int) × (Int × Int))) (g2 : Int → Int → Int → Int → Option ((List (Int × (Int × Int))) × Bool)) (g3 : Int → Int → Int → Int → Option ((List (Int × (Int × Int))) × Bool)) (g4 : List (Int × (Int × Int)) → List (Int × (Int × Int)) → Option Bool) (g5 : Int → Int → Int → Option (Int × Bool)) (g6 : Int → Int → Int → Int → Int → Option (Bool × Bool)) (g7 : Int → Int → Int → Int → Option (Int × Bool)) (g8 : List (Int × (Int × Int)) → Option Bool) (g9 : List Int → Option (List (Int × (Int × Int)))) (g10 : List (Int × (Int × Int)) → Option ((List (Int × (Int × Int))) × Bool)) (g11 : List (Int × (Int × Int)) → Option ((List (Int × (Int × Int))) × Bool)) (g12 : List (Int × (Int × Int)) → Option (Bool × Bool)) (g13 : List (Int × (Int × Int)) → Option ((List (Int × Int)) × Bool)) (g14 : List (Int × (Int × Int)) → Option ((List Int) × Bool)) (g15 : List (Int × Int) → List (Int × Int) → Option Bool) (g16 : List Int → Option ((List (Int × (Int × Int))) × (Int × (Int × Int)))) (g17 : List (Int × (Int × Int)) → Int → Int → Int → Option ((List (Int × (Int × Int))) × Bool)) (g18 : List (Int × (Int × Int)) → Int → Int → Int → Option ((List (Int × (Int × Int))) × Bool)) (g19 : List Int → Option ((List (Int × (Int × Int))) × Int)) (g20 : List (Int × (Int × Int)) → Int → Option ((List (Int × (Int × Int))) × Bool)) (g21 : List (Int × (Int × Int)) → Int → Option ((List (Int × (Int × Int))) × Bool)) (g22 : List Int → Option ((Int × (Int × Int)) × (Int × Int))) (g23 : Int → Int → Int → Int → Int → Option (Bool × Bool)) (g24 : List Int → Option (Int × (Int × Int))) (g25 : Int → Int → Int → Option Bool) (g26 : Int → Int → Int → Option Bool) (a0 a1 : List Int) : Option Bool :=
 (g0 a0 a1).bind fun t0 =>
 if t0 = true then (some true) else ((g1 a0).bind fun t1 =>
 (g2 t1.1.1 t1.1.2 t1.2.1 t1.2.2).bind fun t2 =>
 (g3 t1.1.1 t1.1.2 t1.2.1 t1.2.2).bind fun t3 =>
 if (!(t2.2 == t3.2)) = true then (some false) else ((g4 t2.1 t3.1).bind fun t4 =>
 if (!t4) = true then (some false) else (if t2.2 = true then ((g5 t1.1.1 t1.1.2 50).bind fun t5 =>
 (g6 0 50 t5.1 t1.1.1 t1.1.2).bind fun t6 =>
 (g7 t1.1.1 t1.1.2 100 7).bind fun t7 =>
 (g6 1 7 t7.1 t1.1.1 t1.1.2).bind fun t8 =>
 (g6 4 0 (wrap64 (t1.1.1 - t1.1.2)) t1.1.1 t1.1.2).bind fun t9 =>
 (g8 t2.1).bind fun t10 =>
 if (!t10) = true then (some false) else (if ((dlen t2.1) != t1.2.1) = true then (some false) else (if (!t5.2) = true then (if (t5.1 != 0) = true then (some false) else (if (!t6.2) = true then (some false) else (if (!t6.1) = true then (some false) else (if (!t7.2) = true then (some false) else (if (!t8.2) = true then (some false) else (if (!t8.1) = true then (some false) else (if (!t9.2) = true then (some false) else (if (!t9.1) = true then (some false) else (L0 a1 t2.1 (dlen t2.1) 0 t1.1.1 t1.1.2))))))))) else (if (!t6.2) = true then (some false) else (if (!t6.1) = true then (some false) else (if (!t7.2) = true then (some false) else (if (!t8.2) = true then (some false) else (if (!t8.1) = true then (some false) else (if (!t9.2) = true then (some false) else (if (!t9.1) = true then (some false) else (L0 a1 t2.1 (dlen t2.1) 0 t1.1.1 t1.1.2))))))))))) else ((g9 a1).bind fun t5 =>
 (g10 t5).bind fun t6 =>
 (g11 t5).bind fun t7 =>
 (g12 t5).bind fun t8 =>
 if (!(t6.2 == t7.2)) = true then (some false) else ((g4 t6.1 t7.1).bind fun t9 =>
 if (!t9) = true then (some false) else (if t8.2 = true then (if (!(t6.2 == t8.1)) = true then (some false) else (if t6.2 = true then ((g13 t5).bind fun t10 =>
 (g13 t6.1).bind fun t11 =>
 (g14 t6.1).bind fun t12 =>
 if (!t10.2) = true then (some false) else (if (!t11.2) = true then (some false) else ((g15 t10.1 t11.1).bind fun t13 =>
 if (!t13) = true then (some false) else (if (!t12.2) = true then (some false) else (if ((dlen t12.1) != 0) = true then (some false) else (if (decide ((dlen t6.1) > (dlen t5))) = true then (some false) else ((g16 a1).bind fun t14 =>
 (g17 t14.1 t14.2.1 t14.2.2.1 t14.2.2.2).bind fun t15 =>
 (g18 t14.1 t14.2.1 t14.2.2.1 t14.2.2.2).bind fun t16 =>
 (g19 a1).bind fun t17 =>
 (g20 t17.1 t17.2).bind fun t18 =>
 (g21 t17.1 t17.2).bind fun t19 =>
 (g22 a1).bind fun t20 =>
 (g6 t20.1.1 t20.1.2.1 t20.1.2.2 t20.2.1 t20.2.2).bind fun t21 =>
 (g23 t20.1.1 t20.1.2.1 t20.1.2.2 t20.2.1 t20.2.2).bind fun t22 =>
 (g24 a1).bind fun t23 =>
 if (!(t15.2 == t16.2)) = true then (some false) else ((g4 t15.1 t16.1).bind fun t24 =>
 if (!t24) = true then (some false) else (if (!(t18.2 == t19.2)) = true then (some false) else ((g4 t18.1 t19.1).bind fun t25 =>
 if (!t25) = true then (some false) else (if (!(t21.2 == t22.2)) = true then (some false) else (if (!(t21.1 == t22.1)) = true then (some false) else ((g25 t23.1 t23.2.1 t23.2.2).bind fun t26 =>
 (g26 t23.1 t23.2.1 t23.2.2).bind fun t27 =>
 if (!(t26 == t27)) = true then (some false) else (if t21.2 = true then ((g25 t20.1.1 t20.1.2.1 t20.1.2.2).bind fun t28 =>
 if (!t28) = true then (some false) else (if t15.2 = true then ((g20 t15.1 (dlen t14.1)).bind fun t29 =>
 if (!t29.2) = true then (some false) else ((g4 t29.1 t14.1).bind fun t30 =>
 if (!t30) = true then (some false) else (if 0 ≤ (dlen t14.1) then (if (dlen t14.1) < (dlen t15.1) then (if (!(((rd (0, (0, 0)) t15.1 (dlen t14.1)).1 == t14.2.1) && (((rd (0, (0, 0)) t15.1 (dlen t14.1)).2.1 == t14.2.2.1) && ((rd (0, (0, 0)) t15.1 (dlen t14.1)).2.2 == t14.2.2.2)))) = true then (some false) else (if t18.2 = true then (if (t17.2 == (wrap64 ((dlen t17.1) - 1))) = true then (if 0 ≤ t17.2 then (if t17.2 < (dlen t17.1) then ((g17 t18.1 (rd (0, (0, 0)) t17.1 t17.2).1 (rd (0, (0, 0)) t17.1 t17.2).2.1 (rd (0, (0, 0)) t17.1 t17.2).2.2).bind fun t31 =>
 if t31.2 = true then ((g4 t31.1 t17.1).bind fun t32 =>
 some t32) else (some false)) else (none)) else (none)) else (some true)) else (some true))) else (none)) else (none)))) else (if t18.2 = true then (if (t17.2 == (wrap64 ((dlen t17.1) - 1))) = true then (if 0 ≤ t17.2 then (if t17.2 < (dlen t17.1) then ((g17 t18.1 (rd (0, (0, 0)) t17.1 t17.2).1 (rd (0, (0, 0)) t17.1 t17.2).2.1 (rd (0, (0, 0)) t17.1 t17.2).2.2).bind fun t29 =>
 if t29.2 = true then ((g4 t29.1 t17.1).bind fun t30 =>
 some t30) else (some false)) else (none)) else (none)) else (some true)) else (some true)))) else (if t15.2 = true then ((g20 t15.1 (dlen t14.1)).bind fun t28 =>
 if (!t28.2) = true then (some false) else ((g4 t28.1 t14.1).bind fun t29 =>
 if (!t29) = true then (some false) else (if 0 ≤ (dlen t14.1) then (if (dlen t14.1) < (dlen t15.1) then (if (!(((rd (0, (0, 0)) t15.1 (dlen t14.1)).1 == t14.2.1) && (((rd (0, (0, 0)) t15.1 (dlen t14.1)).2.1 == t14.2.2.1) && ((rd (0, (0, 0)) t15.1 (dlen t14.1)).2.2 == t14.2.2.2)))) = true then (some false) else (if t18.2 = true then (if (t17.2 == (wrap64 ((dlen t17.1) - 1))) = true then (if 0 ≤ t17.2 then (if t17.2 < (dlen t17.1) then ((g17 t18.1 (rd (0, (0, 0)) t17.1 t17.2).1 (rd (0, (0, 0)) t17.1 t17.2).2.1 (rd (0, (0, 0)) t17.1 t17.2).2.2).bind fun t30 =>
 if t30.2 = true then ((g4 t30.1 t17.1).bind fun t31 =>
 some t31) else (some false)) else (none)) else (none)) else (some true)) else (some true))) else (none)) else (none)))) else (if t18.2 = true then (if (t17.2 == (wrap64 ((dlen t17.1) - 1))) = true then (if 0 ≤ t17.2 then (if t17.2 < (dlen t17.1) then ((g17 t18.1 (rd (0, (0, 0)) t17.1 t17.2).1 (rd (0, (0, 0)) t17.1 t17.2).2.1 (rd (0, (0, 0)) t17.1 t17.2).2.2).bind fun t28 =>
 if t28.2 = true then ((g4 t28.1 t17.1).bind fun t29 =>
 some t29) else (some false)) else (none)) else (none)) else (some true)) else (some true))))))))))))))))) else ((g16 a1).bind fun t10 =>
 (g17 t10.1 t10.2.1 t10.2.2.1 t10.2.2.2).bind fun t11 =>
 (g18 t10.1 t10.2.1 t10.2.2.1 t10.2.2.2).bind fun t12 =>
 (g19 a1).bind fun t13 =>
 (g20 t13.1 t13.2).bind fun t14 =>
 (g21 t13.1 t13.2).bind fun t15 =>
 (g22 a1).bind fun t16 =>
 (g6 t16.1.1 t16.1.2.1 t16.1.2.2 t16.2.1 t16.2.2).bind fun t17 =>
 (g23 t16.1.1 t16.1.2.1 t16.1.2.2 t16.2.1 t16.2.2).bind fun t18 =>
 (g24 a1).bind fun t19 =>
 if (!(t11.2 == t12.2)) = true then (some false) else ((g4 t11.1 t12.1).bind fun t20 =>
 if (!t20) = true then (some false) else (if (!(t14.2 == t15.2)) = true then (some false) else ((g4 t14.1 t15.1).bind fun t21 =>
 if (!t21) = true then (some false) else (if (!(t17.2 == t18.2)) = true then (some false) else (if (!(t17.1 == t18.1)) = true then (some false) else ((g25 t19.1 t19.2.1 t19.2.2).bind fun t22 =>
 (g26 t19.1 t19.2.1 t19.2.2).bind fun t23 =>
 if (!(t22 == t23)) = true then (some false) else (if t17.2 = true then ((g25 t16.1.1 t16.1.2.1 t16.1.2.2).bind fun t24 =>
 if (!t24) = true then (some false) else (if t11.2 = true then ((g20 t11.1 (dlen t10.1)).bind fun t25 =>
 if (!t25.2) = true then (some false) else ((g4 t25.1 t10.1).bind fun t26 =>
 if (!t26) = true then (some false) else (if 0 ≤ (dlen t10.1) then (if (dlen t10.1) < (dlen t11.1) then (if (!(((rd (0, (0, 0)) t11.1 (dlen t10.1)).1 == t10.2.1) && (((rd (0, (0, 0)) t11.1 (dlen t10.1)).2.1 == t10.2.2.1) && ((rd (0, (0, 0)) t11.1 (dlen t10.1)).2.2 == t10.2.2.2)))) = true then (some false) else (if t14.2 = true then (if (t13.2 == (wrap64 ((dlen t13.1) - 1))) = true then (if 0 ≤ t13.2 then (if t13.2 < (dlen t13.1) then ((g17 t14.1 (rd (0, (0, 0)) t13.1 t13.2).1 (rd (0, (0, 0)) t13.1 t13.2).2.1 (rd (0, (0, 0)) t13.1 t13.2).2.2).bind fun t27 =>
 if t27.2 = true then ((g4 t27.1 t13.1).bind fun t28 =>
 some t28) else (some false)) else (none)) else (none)) else (some true)) else (some true))) else (none)) else (none)))) else (if t14.2 = true then (if (t13.2 == (wrap64 ((dlen t13.1) - 1))) = true then (if 0 ≤ t13.2 then (if t13.2 < (dlen t13.1) then ((g17 t14.1 (rd (0, (0, 0)) t13.1 t13.2).1 (rd (0, (0, 0)) t13.1 t13.2).2.1 (rd (0, (0, 0)) t13.1 t13.2).2.2).bind fun t25 =>
 if t25.2 = true then ((g4 t25.1 t13.1).bind fun t26 =>
 some t26) else (some false)) else (none)) else (none)) else (some true)) else (some true)))) else (if t11.2 = true then ((g20 t11.1 (dlen t10.1)).bind fun t24 =>
 if (!t24.2) = true then (some false) else ((g4 t24.1 t10.1).bind fun t25 =>
 if (!t25) = true then (some false) else (if 0 ≤ (dlen t10.1) then (if (dlen t10.1) < (dlen t11.1) then (if (!(((rd (0, (0, 0)) t11.1 (dlen t10.1)).1 == t10.2.1) && (((rd (0, (0, 0)) t11.1 (dlen t10.1)).2.1 == t10.2.2.1) && ((rd (0, (0, 0)) t11.1 (dlen t10.1)).2.2 == t10.2.2.2)))) = true then (some false) else (if t14.2 = true then (if (t13.2 == (wrap64 ((dlen t13.1) - 1))) = true then (if 0 ≤ t13.2 then (if t13.2 < (dlen t13.1) then ((g17 t14.1 (rd (0, (0, 0)) t13.1 t13.2).1 (rd (0, (0, 0)) t13.1 t13.2).2.1 (rd (0, (0, 0)) t13.1 t13.2).2.2).bind fun t26 =>
 if t26.2 = true then ((g4 t26.1 t13.1).bind fun t27 =>
 some t27) else (some false)) else (none)) else (none)) else (some true)) else (some true))) else (none)) else (none)))) else (if t14.2 = true then (if (t13.2 == (wrap64 ((dlen t13.1) - 1))) = true then (if 0 ≤ t13.2 then (if t13.2 < (dlen t13.1) then ((g17 t14.1 (rd (0, (0, 0)) t13.1 t13.2).1 (rd (0, (0, 0)) t13.1 t13.2).2.1 (rd (0, (0, 0)) t13.1 t13.2).2.2).bind fun t24 =>
 if t24.2 = true then ((g4 t24.1 t13.1).bind fun t25 =>
 some t25) else (some false)) else (none)) else (none)) else (some true)) else (some true))))))))))))) else (if (!(t6.2 == false)) = true then (some false) else (if t6.2 = true then ((g13 t5).bind fun t10 =>
 (g13 t6.1).bind fun t11 =>
 (g14 t6.1).bind fun t12 =>
 if (!t10.2) = true then (some false) else (if (!t11.2) = true then (some false) else ((g15 t10.1 t11.1).bind fun t13 =>
 if (!t13) = true then (some false) else (if (!t12.2) = true then (some false) else (if ((dlen t12.1) != 0) = true then (some false) else (if (decide ((dlen t6.1) > (dlen t5))) = true then (some false) else ((g16 a1).bind fun t14 =>
 (g17 t14.1 t14.2.1 t14.2.2.1 t14.2.2.2).bind fun t15 =>
 (g18 t14.1 t14.2.1 t14.2.2.1 t14.2.2.2).bind fun t16 =>
 (g19 a1).bind fun t17 =>
 (g20 t17.1 t17.2).bind fun t18 =>
 (g21 t17.1 t17.2).bind fun t19 =>
 (g22 a1).bind fun t20 =>
 (g6 t20.1.1 t20.1.2.1 t20.1.2.2 t20.2.1 t20.2.2).bind fun t21 =>
 (g23 t20.1.1 t20.1.2.1 t20.1.2.2 t20.2.1 t20.2.2).bind fun t22 =>
 (g24 a1).bind fun t23 =>
 if (!(t15.2 == t16.2)) = true then (some false) else ((g4 t15.1 t16.1).bind fun t24 =>
 if (!t24) = true then (some false) else (if (!(t18.2 == t19.2)) = true then (some false) else ((g4 t18.1 t19.1).bind fun t25 =>
 if (!t25) = true then (some false) else (if (!(t21.2 == t22.2)) = true then (some false) else (if (!(t21.1 == t22.1)) = true then (some false) else ((g25 t23.1 t23.2.1 t23.2.2).bind fun t26 =>
 (g26 t23.1 t23.2.1 t23.2.2).bind fun t27 =>
 if (!(t26 == t27)) = true then (some false) else (if t21.2 = true then ((g25 t20.1.1 t20.1.2.1 t20.1.2.2).bind fun t28 =>
 if (!t28) = true then (some false) else (if t15.2 = true then ((g20 t15.1 (dlen t14.1)).bind fun t29 =>
 if (!t29.2) = true then (some false) else ((g4 t29.1 t14.1).bind fun t30 =>
 if (!t30) = true then (some false) else (if 0 ≤ (dlen t14.1) then (if (dlen t14.1) < (dlen t15.1) then (if (!(((rd (0, (0, 0)) t15.1 (dlen t14.1)).1 == t14.2.1) && (((rd (0, (0, 0)) t15.1 (dlen t14.1)).2.1 == t14.2.2.1) && ((rd (0, (0, 0)) t15.1 (dlen t14.1)).2.2 == t14.2.2.2)))) = true then (some false) else (if t18.2 = true then (if (t17.2 == (wrap64 ((dlen t17.1) - 1))) = true then (if 0 ≤ t17.2 then (if t17.2 < (dlen t17.1) then ((g17 t18.1 (rd (0, (0, 0)) t17.1 t17.2).1 (rd (0, (0, 0)) t17.1 t17.2).2.1 (rd (0, (0, 0)) t17.1 t17.2).2.2).bind fun t31 =>
 if t31.2 = true then ((g4 t31.1 t17.1).bind fun t32 =>
 some t32) else (some false)) else (none)) else (none)) else (some true)) else (some true))) else (none)) else (none)))) else (if t18.2 = true then (if (t17.2 == (wrap64 ((dlen t17.1) - 1))) = true then (if 0 ≤ t17.2 then (if t17.2 < (dlen t17.1) then ((g17 t18.1 (rd (0, (0, 0)) t17.1 t17.2).1 (rd (0, (0, 0)) t17.1 t17.2).2.1 (rd (0, (0, 0)) t17.1 t17.2).2.2).bind fun t29 =>
 if t29.2 = true then ((g4 t29.1 t17.1).bind fun t30 =>
 some t30) else (some false)) else (none)) else (none)) else (some true)) else (some true)))) else (if t15.2 = true then ((g20 t15.1 (dlen t14.1)).bind fun t28 =>
 if (!t28.2) = true then (some false) else ((g4 t28.1 t14.1).bind fun t29 =>
 if (!t29) = true then (some false) else (if 0 ≤ (dlen t14.1) then (if (dlen t14.1) < (dlen t15.1) then (if (!(((rd (0, (0, 0)) t15.1 (dlen t14.1)).1 == t14.2.1) && (((rd (0, (0, 0)) t15.1 (dlen t14.1)).2.1 == t14.2.2.1) && ((rd (0, (0, 0)) t15.1 (dlen t14.1)).2.2 == t14.2.2.2)))) = true then (some false) else (if t18.2 = true then (if (t17.2 == (wrap64 ((dlen t17.1) - 1))) = true then (if 0 ≤ t17.2 then (if t17.2 < (dlen t17.1) then ((g17 t18.1 (rd (0, (0, 0)) t17.1 t17.2).1 (rd (0, (0, 0)) t17.1 t17.2).2.1 (rd (0, (0, 0)) t17.1 t17.2).2.2).bind fun t30 =>
 if t30.2 = true then ((g4 t30.1 t17.1).bind fun t31 =>
 some t31) else (some false)) else (none)) else (none)) else (some true)) else (some true))) else (none)) else (none)))) else (if t18.2 = true then (if (t17.2 == (wrap64 ((dlen t17.1) - 1))) = true then (if 0 ≤ t17.2 then (if t17.2 < (dlen t17.1) then ((g17 t18.1 (rd (0, (0, 0)) t17.1 t17.2).1 (rd (0, (0, 0)) t17.1 t17.2).2.1 (rd (0, (0, 0)) t17.1 t17.2).2.2).bind fun t28 =>
 if t28.2 = true then ((g4 t28.1 t17.1).bind fun t29 =>
 some t29) else (some false)) else (none)) else (none)) else (some true)) else (some true))))))))))))))))) else ((g16 a1).bind fun t10 =>
 (g17 t10.1 t10.2.1 t10.2.2.1 t10.2.2.2).bind fun t11 =>
 (g18 t10.1 t10.2.1 t10.2.2.1 t10.2.2.2).bind fun t12 =>
 (g19 a1).bind fun t13 =>
 (g20 t13.1 t13.2).bind fun t14 =>
 (g21 t13.1 t13.2).bind fun t15 =>
 (g22 a1).bind fun t16 =>
 (g6 t16.1.1 t16.1.2.1 t16.1.2.2 t16.2.1 t16.2.2).bind fun t17 =>
 (g23 t16.1.1 t16.1.2.1 t16.1.2.2 t16.2.1 t16.2.2).bind fun t18 =>
 (g24 a1).bind fun t19 =>
 if (!(t11.2 == t12.2)) = true then (some false) else ((g4 t11.1 t12.1).bind fun t20 =>
 if (!t20) = true then (some false) else (if (!(t14.2 == t15.2)) = true then (some false) else ((g4 t14.1 t15.1).bind fun t21 =>
 if (!t21) = true then (some false) else (if (!(t17.2 == t18.2)) = true then (some false) else (if (!(t17.1 == t18.1)) = true then (some false) else ((g25 t19.1 t19.2.1 t19.2.2).bind fun t22 =>
 (g26 t19.1 t19.2.1 t19.2.2).bind fun t23 =>
 if (!(t22 == t23)) = true then (some false) else (if t17.2 = true then ((g25 t16.1.1 t16.1.2.1 t16.1.2.2).bind fun t24 =>
 if (!t24) = true then (some false) else (if t11.2 = true then ((g20 t11.1 (dlen t10.1)).bind fun t25 =>
 if (!t25.2) = true then (some false) else ((g4 t25.1 t10.1).bind fun t26 =>
 if (!t26) = true then (some false) else (if 0 ≤ (dlen t10.1) then (if (dlen t10.1) < (dlen t11.1) then (if (!(((rd (0, (0, 0)) t11.1 (dlen t10.1)).1 == t10.2.1) && (((rd (0, (0, 0)) t11.1 (dlen t10.1)).2.1 == t10.2.2.1) && ((rd (0, (0, 0)) t11.1 (dlen t10.1)).2.2 == t10.2.2.2)))) = true then (some false) else (if t14.2 = true then (if (t13.2 == (wrap64 ((dlen t13.1) - 1))) = true then (if 0 ≤ t13.2 then (if t13.2 < (dlen t13.1) then ((g17 t14.1 (rd (0, (0, 0)) t13.1 t13.2).1 (rd (0, (0, 0)) t13.1 t13.2).2.1 (rd (0, (0, 0)) t13.1 t13.2).2.2).bind fun t27 =>
 if t27.2 = true then ((g4 t27.1 t13.1).bind fun t28 =>
 some t28) else (some false)) else (none)) else (none)) else (some true)) else (some true))) else (none)) else (none)))) else (if t14.2 = true then (if (t13.2 == (wrap64 ((dlen t13.1) - 1))) = true then (if 0 ≤ t13.2 then (if t13.2 < (dlen t13.1) then ((g17 t14.1 (rd (0, (0, 0)) t13.1 t13.2).1 (rd (0, (0, 0)) t13.1 t13.2).2.1 (rd (0, (0, 0)) t13.1 t13.2).2.2).bind fun t25 =>
 if t25.2 = true then ((g4 t25.1 t13.1).bind fun t26 =>
 some t26) else (some false)) else (none)) else (none)) else (some true)) else (some true)))) else (if t11.2 = true then ((g20 t11.1 (dlen t10.1)).bind fun t24 =>
 if (!t24.2) = true then (some false) else ((g4 t24.1 t10.1).bind fun t25 =>
 if (!t25) = true then (some false) else (if 0 ≤ (dlen t10.1) then (if (dlen t10.1) < (dlen t11.1) then (if (!(((rd (0, (0, 0)) t11.1 (dlen t10.1)).1 == t10.2.1) && (((rd (0, (0, 0)) t11.1 (dlen t10.1)).2.1 == t10.2.2.1) && ((rd (0, (0, 0)) t11.1 (dlen t10.1)).2.2 == t10.2.2.2)))) = true then (some false) else (if t14.2 = true then (if (t13.2 == (wrap64 ((dlen t13.1) - 1))) = true then (if 0 ≤ t13.2 then (if t13.2 < (dlen t13.1) then ((g17 t14.1 (rd (0, (0, 0)) t13.1 t13.2).1 (rd (0, (0, 0)) t13.1 t13.2).2.1 (rd (0, (0, 0)) t13.1 t13.2).2.2).bind fun t26 =>
 if t26.2 = true then ((g4 t26.1 t13.1).bind fun t27 =>
 some t27) else (some false)) else (none)) else (none)) else (some true)) else (some true))) else (none)) else (none)))) else (if t14.2 = true then (if (t13.2 == (wrap64 ((dlen t13.1) - 1))) = true then (if 0 ≤ t13.2 then (if t13.2 < (dlen t13.1) then ((g17 t14.1 (rd (0, (0, 0)) t13.1 t13.2).1 (rd (0, (0, 0)) t13.1 t13.2).2.1 (rd (0, (0, 0)) t13.1 t13.2).2.2).bind fun t24 =>
 if t24.2 = true then ((g4 t24.1 t13.1).bind fun t25 =>
 some t25) else (some false)) else (none)) else (none)) else (some true)) else (some true)))))))))))))))))))
noncomputable def b0 (L0 : List Int → List (Int × (Int × Int)) → Int → Int → Int → Int → Option Bool) (g6 : Int → Int → Int → Int → Int → Option (Bool × Bool)) (g9 : List Int → Option (List (Int × (Int × Int)))) (g10 : List (Int × (Int × Int)) → Option ((List (Int × (Int × Int))) × Bool)) (g11 : List (Int × (Int × Int)) → Option ((List (Int × (Int × Int))) × Bool)) (g12 : List (Int × (Int × Int)) → Option (Bool × Bool)) (g4 : List (Int × (Int × Int)) → List (Int × (Int × Int)) → Option Bool) (g13 : List (Int × (Int × Int)) → Option ((List (Int × Int)) × Bool)) (g14 : List (Int × (Int × Int)) → Option ((List Int) × Bool)) (g15 : List (Int × Int) → List (Int × Int) → Option Bool) (g16 : List Int → Option ((List (Int × (Int × Int))) × (Int × (Int × Int)))) (g17 : List (Int × (Int × Int)) → Int → Int → Int → Option ((List (Int × (Int × Int))) × Bool)) (g18 : List (Int × (Int × Int)) → Int → Int → Int → Option ((List (Int × (Int × Int))) × Bool)) (g19 : List Int → Option ((List (Int × (Int × Int))) × Int)) (g20 : List (Int × (Int × Int)) → Int → Option ((List (Int × (Int × Int))) × Bool)) (g21 : List (Int × (Int × Int)) → Int → Option ((List (Int × (Int × Int))) × Bool)) (g22 : List Int → Option ((Int × (Int × Int)) × (Int × Int))) (g23 : Int → Int → Int → Int → Int → Option (Bool × Bool)) (g24 : List Int → Option (Int × (Int × Int))) (g25 : Int → Int → Int → Option Bool) (g26 : Int → Int → Int → Option Bool) (x0 : List Int) (x1 : List (Int × (Int × Int))) (x2 x3 x4 x5 : Int) : Option Bool :=
 if (decide (x3 < x2)) = true then (if 0 ≤ x3 then (if x3 < (dlen x1) then ((g6 (rd (0, (0, 0)) x1 x3).1 (rd (0, (0, 0)) x1 x3).2.1 (rd (0, (0, 0)) x1 x3).2.2 x4 x5).bind fun t0 =>
 if (!t0.2) = true then (some false) else (if (!t0.1) = true then (some false) else (L0 x0 x1 x2 (wrap64 (x3 + 1)) x4 x5))) else (none)) else (none)) else ((g9 x0).bind fun t0 =>
 (g10 t0).bind fun t1 =>
 (g11 t0).bind fun t2 =>
 (g12 t0).bind fun t3 =>
 if (!(t1.2 == t2.2)) = true then (some false) else ((g4 t1.1 t2.1).bind fun t4 =>
 if (!t4) = true then (some false) else (if t3.2 = true then (if (!(t1.2 == t3.1)) = true then (some false) else (if t1.2 = true then ((g13 t0).bind fun t5 =>
 (g13 t1.1).bind fun t6 =>
 (g14 t1.1).bind fun t7 =>
 if (!t5.2) = true then (some false) else (if (!t6.2) = true then (some false) else ((g15 t5.1 t6.1).bind fun t8 =>
 if (!t8) = true then (some false) else (if (!t7.2) = true then (some false) else (if ((dlen t7.1) != 0) = true then (some false) else (if (decide ((dlen t1.1) > (dlen t0))) = true then (some false) else ((g16 x0).bind fun t9 =>
 (g17 t9.1 t9.2.1 t9.2.2.1 t9.2.2.2).bind fun t10 =>
 (g18 t9.1 t9.2.1 t9.2.2.1 t9.2.2.2).bind fun t11 =>
 (g19 x0).bind fun t12 =>
 (g20 t12.1 t12.2).bind fun t13 =>
 (g21 t12.1 t12.2).bind fun t14 =>
 (g22 x0).bind fun t15 =>
 (g6 t15.1.1 t15.1.2.1 t15.1.2.2 t15.2.1 t15.2.2).bind fun t16 =>
 (g23 t15.1.1 t15.1.2.1 t15.1.2.2 t15.2.1 t15.2.2).bind fun t17 =>
 (g24 x0).bind fun t18 =>
 if (!(t10.2 == t11.2)) = true then (some false) else ((g4 t10.1 t11.1).bind fun t19 =>
 if (!t19) = true then (some false) else (if (!(t13.2 == t14.2)) = true then (some false) else ((g4 t13.1 t14.1).bind fun t20 =>
 if (!t20) = true then (some false) else (if (!(t16.2 == t17.2)) = true then (some false) else (if (!(t16.1 == t17.1)) = true then (some false) else ((g25 t18.1 t18.2.1 t18.2.2).bind fun t21 =>
 (g26 t18.1 t18.2.1 t18.2.2).bind fun t22 =>
 if (!(t21 == t22)) = true then (some false) else (if t16.2 = true then ((g25 t15.1.1 t15.1.2.1 t15.1.2.2).bind fun t23 =>
 if (!t23) = true then (some false) else (if t10.2 = true then ((g20 t10.1 (dlen t9.1)).bind fun t24 =>
 if (!t24.2) = true then (some false) else ((g4 t24.1 t9.1).bind fun t25 =>
 if (!t25) = true then (some false) else (if 0 ≤ (dlen t9.1) then (if (dlen t9.1) < (dlen t10.1) then (if (!(((rd (0, (0, 0)) t10.1 (dlen t9.1)).1 == t9.2.1) && (((rd (0, (0, 0)) t10.1 (dlen t9.1)).2.1 == t9.2.2.1) && ((rd (0, (0, 0)) t10.1 (dlen t9.1)).2.2 == t9.2.2.2)))) = true then (some false) else (if t13.2 = true then (if (t12.2 == (wrap64 ((dlen t12.1) - 1))) = true then (if 0 ≤ t12.2 then (if t12.2 < (dlen t12.1) then ((g17 t13.1 (rd (0, (0, 0)) t12.1 t12.2).1 (rd (0, (0, 0)) t12.1 t12.2).2.1 (rd (0, (0, 0)) t12.1 t12.2).2.2).bind fun t26 =>
 if t26.2 = true then ((g4 t26.1 t12.1).bind fun t27 =>
 some t27) else (some false)) else (none)) else (none)) else (some true)) else (some true))) else (none)) else (none)))) else (if t13.2 = true then (if (t12.2 == (wrap64 ((dlen t12.1) - 1))) = true then (if 0 ≤ t12.2 then (if t12.2 < (dlen t12.1) then ((g17 t13.1 (rd (0, (0, 0)) t12.1 t12.2).1 (rd (0, (0, 0)) t12.1 t12.2).2.1 (rd (0, (0, 0)) t12.1 t12.2).2.2).bind fun t24 =>
 if t24.2 = true then ((g4 t24.1 t12.1).bind fun t25 =>
 some t25) else (some false)) else (none)) else (none)) else (some true)) else (some true)))) else (if t10.2 = true then ((g20 t10.1 (dlen t9.1)).bind fun t23 =>
 if (!t23.2) = true then (some false) else ((g4 t23.1 t9.1).bind fun t24 =>
 if (!t24) = true then (some false) else (if 0 ≤ (dlen t9.1) then (if (dlen t9.1) < (dlen t10.1) then (if (!(((rd (0, (0, 0)) t10.1 (dlen t9.1)).1 == t9.2.1) && (((rd (0, (0, 0)) t10.1 (dlen t9.1)).2.1 == t9.2.2.1) && ((rd (0, (0, 0)) t10.1 (dlen t9.1)).2.2 == t9.2.2.2)))) = true then (some false) else (if t13.2 = true then (if (t12.2 == (wrap64 ((dlen t12.1) - 1))) = true then (if 0 ≤ t12.2 then (if t12.2 < (dlen t12.1) then ((g17 t13.1 (rd (0, (0, 0)) t12.1 t12.2).1 (rd (0, (0, 0)) t12.1 t12.2).2.1 (rd (0, (0, 0)) t12.1 t12.2).2.2).bind fun t25 =>
 if t25.2 = true then ((g4 t25.1 t12.1).bind fun t26 =>
 some t26) else (some false)) else (none)) else (none)) else (some true)) else (some true))) else (none)) else (none)))) else (if t13.2 = true then (if (t12.2 == (wrap64 ((dlen t12.1) - 1))) = true then (if 0 ≤ t12.2 then (if t12.2 < (dlen t12.1) then ((g17 t13.1 (rd (0, (0, 0)) t12.1 t12.2).1 (rd (0, (0, 0)) t12.1 t12.2).2.1 (rd (0, (0, 0)) t12.1 t12.2).2.2).bind fun t23 =>
 if t23.2 = true then ((g4 t23.1 t12.1).bind fun t24 =>
 some t24) else (some false)) else (none)) else (none)) else (some true)) else (some true))))))))))))))))) else ((g16 x0).bind fun t5 =>
 (g17 t5.1 t5.2.1 t5.2.2.1 t5.2.2.2).bind fun t6 =>
 (g18 t5.1 t5.2.1 t5.2.2.1 t5.2.2.2).bind fun t7 =>
 (g19 x0).bind fun t8 =>
 (g20 t8.1 t8.2).bind fun t9 =>
 (g21 t8.1 t8.2).bind fun t10 =>
 (g22 x0).bind fun t11 =>
 (g6 t11.1.1 t11.1.2.1 t11.1.2.2 t11.2.1 t11.2.2).bind fun t12 =>
 (g23 t11.1.1 t11.1.2.1 t11.1.2.2 t11.2.1 t11.2.2).bind fun t13 =>
 (g24 x0).bind fun t14 =>
 if (!(t6.2 == t7.2)) = true then (some false) else ((g4 t6.1 t7.1).bind fun t15 =>
 if (!t15) = true then (some false) else (if (!(t9.2 == t10.2)) = true then (some false) else ((g4 t9.1 t10.1).bind fun t16 =>
 if (!t16) = true then (some false) else (if (!(t12.2 == t13.2)) = true then (some false) else (if (!(t12.1 == t13.1)) = true then (some false) else ((g25 t14.1 t14.2.1 t14.2.2).bind fun t17 =>
 (g26 t14.1 t14.2.1 t14.2.2).bind fun t18 =>
 if (!(t17 == t18)) = true then (some false) else (if t12.2 = true then ((g25 t11.1.1 t11.1.2.1 t11.1.2.2).bind fun t19 =>
 if (!t19) = true then (some false) else (if t6.2 = true then ((g20 t6.1 (dlen t5.1)).bind fun t20 =>
 if (!t20.2) = true then (some false) else ((g4 t20.1 t5.1).bind fun t21 =>
 if (!t21) = true then (some false) else (if 0 ≤ (dlen t5.1) then (if (dlen t5.1) < (dlen t6.1) then (if (!(((rd (0, (0, 0)) t6.1 (dlen t5.1)).1 == t5.2.1) && (((rd (0, (0, 0)) t6.1 (dlen t5.1)).2.1 == t5.2.2.1) && ((rd (0, (0, 0)) t6.1 (dlen t5.1)).2.2 == t5.2.2.2)))) = true then (some false) else (if t9.2 = true then (if (t8.2 == (wrap64 ((dlen t8.1) - 1))) = true then (if 0 ≤ t8.2 then (if t8.2 < (dlen t8.1) then ((g17 t9.1 (rd (0, (0, 0)) t8.1 t8.2).1 (rd (0, (0, 0)) t8.1 t8.2).2.1 (rd (0, (0, 0)) t8.1 t8.2).2.2).bind fun t22 =>
 if t22.2 = true then ((g4 t22.1 t8.1).bind fun t23 =>
 some t23) else (some false)) else (none)) else (none)) else (some true)) else (some true))) else (none)) else (none)))) else (if t9.2 = true then (if (t8.2 == (wrap64 ((dlen t8.1) - 1))) = true then (if 0 ≤ t8.2 then (if t8.2 < (dlen t8.1) then ((g17 t9.1 (rd (0, (0, 0)) t8.1 t8.2).1 (rd (0, (0, 0)) t8.1 t8.2).2.1 (rd (0, (0, 0)) t8.1 t8.2).2.2).bind fun t20 =>
 if t20.2 = true then ((g4 t20.1 t8.1).bind fun t21 =>
 some t21) else (some false)) else (none)) else (none)) else (some true)) else (some true)))) else (if t6.2 = true then ((g20 t6.1 (dlen t5.1)).bind fun t19 =>
 if (!t19.2) = true then (some false) else ((g4 t19.1 t5.1).bind fun t20 =>
 if (!t20) = true then (some false) else (if 0 ≤ (dlen t5.1) then (if (dlen t5.1) < (dlen t6.1) then (if (!(((rd (0, (0, 0)) t6.1 (dlen t5.1)).1 == t5.2.1) && (((rd (0, (0, 0)) t6.1 (dlen t5.1)).2.1 == t5.2.2.1) && ((rd (0, (0, 0)) t6.1 (dlen t5.1)).2.2 == t5.2.2.2)))) = true then (some false) else (if t9.2 = true then (if (t8.2 == (wrap64 ((dlen t8.1) - 1))) = true then (if 0 ≤ t8.2 then (if t8.2 < (dlen t8.1) then ((g17 t9.1 (rd (0, (0, 0)) t8.1 t8.2).1 (rd (0, (0, 0)) t8.1 t8.2).2.1 (rd (0, (0, 0)) t8.1 t8.2).2.2).bind fun t21 =>
 if t21.2 = true then ((g4 t21.1 t8.1).bind fun t22 =>
 some t22) else (some false)) else (none)) else (none)) else (some true)) else (some true))) else (none)) else (none)))) else (if t9.2 = true then (if (t8.2 == (wrap64 ((dlen t8.1) - 1))) = true then (if 0 ≤ t8.2 then (if t8.2 < (dlen t8.1) then ((g17 t9.1 (rd (0, (0, 0)) t8.1 t8.2).1 (rd (0, (0, 0)) t8.1 t8.2).2.1 (rd (0, (0, 0)) t8.1 t8.2).2.2).bind fun t19 =>
 if t19.2 = true then ((g4 t19.1 t8.1).bind fun t20 =>
 some t20) else (some false)) else (none)) else (none)) else (some true)) else (some true))))))))))))) else (if (!(t1.2 == false)) = true then (some false) else (if t1.2 = true then ((g13 t0).bind fun t5 =>
 (g13 t1.1).bind fun t6 =>
 (g14 t1.1).bind fun t7 =>
 if (!t5.2) = true then (some false) else (if (!t6.2) = true then (some false) else ((g15 t5.1 t6.1).bind fun t8 =>
 if (!t8) = true then (some false) else (if (!t7.2) = true then (some false) else (if ((dlen t7.1) != 0) = true then (some false) else (if (decide ((dlen t1.1) > (dlen t0))) = true then (some false) else ((g16 x0).bind fun t9 =>
 (g17 t9.1 t9.2.1 t9.2.2.1 t9.2.2.2).bind fun t10 =>
 (g18 t9.1 t9.2.1 t9.2.2.1 t9.2.2.2).bind fun t11 =>
 (g19 x0).bind fun t12 =>
 (g20 t12.1 t12.2).bind fun t13 =>
 (g21 t12.1 t12.2).bind fun t14 =>
 (g22 x0).bind fun t15 =>
 (g6 t15.1.1 t15.1.2.1 t15.1.2.2 t15.2.1 t15.2.2).bind fun t16 =>
 (g23 t15.1.1 t15.1.2.1 t15.1.2.2 t15.2.1 t15.2.2).bind fun t17 =>
 (g24 x0).bind fun t18 =>
 if (!(t10.2 == t11.2)) = true then (some false) else ((g4 t10.1 t11.1).bind fun t19 =>
 if (!t19) = true then (some false) else (if (!(t13.2 == t14.2)) = true then (some false) else ((g4 t13.1 t14.1).bind fun t20 =>
 if (!t20) = true then (some false) else (if (!(t16.2 == t17.2)) = true then (some false) else (if (!(t16.1 == t17.1)) = true then (some false) else ((g25 t18.1 t18.2.1 t18.2.2).bind fun t21 =>
 (g26 t18.1 t18.2.1 t18.2.2).bind fun t22 =>
 if (!(t21 == t22)) = true then (some false) else (if t16.2 = true then ((g25 t15.1.1 t15.1.2.1 t15.1.2.2).bind fun t23 =>
 if (!t23) = true then (some false) else (if t10.2 = true then ((g20 t10.1 (dlen t9.1)).bind fun t24 =>
 if (!t24.2) = true then (some false) else ((g4 t24.1 t9.1).bind fun t25 =>
 if (!t25) = true then (some false) else (if 0 ≤ (dlen t9.1) then (if (dlen t9.1) < (dlen t10.1) then (if (!(((rd (0, (0, 0)) t10.1 (dlen t9.1)).1 == t9.2.1) && (((rd (0, (0, 0)) t10.1 (dlen t9.1)).2.1 == t9.2.2.1) && ((rd (0, (0, 0)) t10.1 (dlen t9.1)).2.2 == t9.2.2.2)))) = true then (some false) else (if t13.2 = true then (if (t12.2 == (wrap64 ((dlen t12.1) - 1))) = true then (if 0 ≤ t12.2 then (if t12.2 < (dlen t12.1) then ((g17 t13.1 (rd (0, (0, 0)) t12.1 t12.2).1 (rd (0, (0, 0)) t12.1 t12.2).2.1 (rd (0, (0, 0)) t12.1 t12.2).2.2).bind fun t26 =>
 if t26.2 = true then ((g4 t26.1 t12.1).bind fun t27 =>
 some t27) else (some false)) else (none)) else (none)) else (some true)) else (some true))) else (none)) else (none)))) else (if t13.2 = true then (if (t12.2 == (wrap64 ((dlen t12.1) - 1))) = true then (if 0 ≤ t12.2 then (if t12.2 < (dlen t12.1) then ((g17 t13.1 (rd (0, (0, 0)) t12.1 t12.2).1 (rd (0, (0, 0)) t12.1 t12.2).2.1 (rd (0, (0, 0)) t12.1 t12.2).2.2).bind fun t24 =>
 if t24.2 = true then ((g4 t24.1 t12.1).bind fun t25 =>
 some t25) else (some false)) else (none)) else (none)) else (some true)) else (some true)))) else (if t10.2 = true then ((g20 t10.1 (dlen t9.1)).bind fun t23 =>
 if (!t23.2) = true then (some false) else ((g4 t23.1 t9.1).bind fun t24 =>
 if (!t24) = true then (some false) else (if 0 ≤ (dlen t9.1) then (if (dlen t9.1) < (dlen t10.1) then (if (!(((rd (0, (0, 0)) t10.1 (dlen t9.1)).1 == t9.2.1) && (((rd (0, (0, 0)) t10.1 (dlen t9.1)).2.1 == t9.2.2.1) && ((rd (0, (0, 0)) t10.1 (dlen t9.1)).2.2 == t9.2.2.2)))) = true then (some false) else (if t13.2 = true then (if (t12.2 == (wrap64 ((dlen t12.1) - 1))) = true then (if 0 ≤ t12.2 then (if t12.2 < (dlen t12.1) then ((g17 t13.1 (rd (0, (0, 0)) t12.1 t12.2).1 (rd (0, (0, 0)) t12.1 t12.2).2.1 (rd (0, (0, 0)) t12.1 t12.2).2.2).bind fun t25 =>
 if t25.2 = true then ((g4 t25.1 t12.1).bind fun t26 =>
 some t26) else (some false)) else (none)) else (none)) else (some true)) else (some true))) else (none)) else (none)))) else (if t13.2 = true then (if (t12.2 == (wrap64 ((dlen t12.1) - 1))) = true then (if 0 ≤ t12.2 then (if t12.2 < (dlen t12.1) then ((g17 t13.1 (rd (0, (0, 0)) t12.1 t12.2).1 (rd (0, (0, 0)) t12.1 t12.2).2.1 (rd (0, (0, 0)) t12.1 t12.2).2.2).bind fun t23 =>
 if t23.2 = true then ((g4 t23.1 t12.1).bind fun t24 =>
 some t24) else (some false)) else (none)) else (none)) else (some true)) else (some true))))))))))))))))) else ((g16 x0).bind fun t5 =>
 (g17 t5.1 t5.2.1 t5.2.2.1 t5.2.2.2).bind fun t6 =>
 (g18 t5.1 t5.2.1 t5.2.2.1 t5.2.2.2).bind fun t7 =>
 (g19 x0).bind fun t8 =>
 (g20 t8.1 t8.2).bind fun t9 =>
 (g21 t8.1 t8.2).bind fun t10 =>
 (g22 x0).bind fun t11 =>
 (g6 t11.1.1 t11.1.2.1 t11.1.2.2 t11.2.1 t11.2.2).bind fun t12 =>
 (g23 t11.1.1 t11.1.2.1 t11.1.2.2 t11.2.1 t11.2.2).bind fun t13 =>
 (g24 x0).bind fun t14 =>
 if (!(t6.2 == t7.2)) = true then (some false) else ((g4 t6.1 t7.1).bind fun t15 =>
 if (!t15) = true then (some false) else (if (!(t9.2 == t10.2)) = true then (some false) else ((g4 t9.1 t10.1).bind fun t16 =>
 if (!t16) = true then (some false) else (if (!(t12.2 == t13.2)) = true then (some false) else (if (!(t12.1 == t13.1)) = true then (some false) else ((g25 t14.1 t14.2.1 t14.2.2).bind fun t17 =>
 (g26 t14.1 t14.2.1 t14.2.2).bind fun t18 =>
 if (!(t17 == t18)) = true then (some false) else (if t12.2 = true then ((g25 t11.1.1 t11.1.2.1 t11.1.2.2).bind fun t19 =>
 if (!t19) = true then (some false) else (if t6.2 = true then ((g20 t6.1 (dlen t5.1)).bind fun t20 =>
 if (!t20.2) = true then (some false) else ((g4 t20.1 t5.1).bind fun t21 =>
 if (!t21) = true then (some false) else (if 0 ≤ (dlen t5.1) then (if (dlen t5.1) < (dlen t6.1) then (if (!(((rd (0, (0, 0)) t6.1 (dlen t5.1)).1 == t5.2.1) && (((rd (0, (0, 0)) t6.1 (dlen t5.1)).2.1 == t5.2.2.1) && ((rd (0, (0, 0)) t6.1 (dlen t5.1)).2.2 == t5.2.2.2)))) = true then (some false) else (if t9.2 = true then (if (t8.2 == (wrap64 ((dlen t8.1) - 1))) = true then (if 0 ≤ t8.2 then (if t8.2 < (dlen t8.1) then ((g17 t9.1 (rd (0, (0, 0)) t8.1 t8.2).1 (rd (0, (0, 0)) t8.1 t8.2).2.1 (rd (0, (0, 0)) t8.1 t8.2).2.2).bind fun t22 =>
 if t22.2 = true then ((g4 t22.1 t8.1).bind fun t23 =>
 some t23) else (some false)) else (none)) else (none)) else (some true)) else (some true))) else (none)) else (none)))) else (if t9.2 = true then (if (t8.2 == (wrap64 ((dlen t8.1) - 1))) = true then (if 0 ≤ t8.2 then (if t8.2 < (dlen t8.1) then ((g17 t9.1 (rd (0, (0, 0)) t8.1 t8.2).1 (rd (0, (0, 0)) t8.1 t8.2).2.1 (rd (0, (0, 0)) t8.1 t8.2).2.2).bind fun t20 =>
 if t20.2 = true then ((g4 t20.1 t8.1).bind fun t21 =>
 some t21) else (some false)) else (none)) else (none)) else (some true)) else (some true)))) else (if t6.2 = true then ((g20 t6.1 (dlen t5.1)).bind fun t19 =>
 if (!t19.2) = true then (some false) else ((g4 t19.1 t5.1).bind fun t20 =>
 if (!t20) = true then (some false) else (if 0 ≤ (dlen t5.1) then (if (dlen t5.1) < (dlen t6.1) then (if (!(((rd (0, (0, 0)) t6.1 (dlen t5.1)).1 == t5.2.1) && (((rd (0, (0, 0)) t6.1 (dlen t5.1)).2.1 == t5.2.2.1) && ((rd (0, (0, 0)) t6.1 (dlen t5.1)).2.2 == t5.2.2.2)))) = true then (some false) else (if t9.2 = true then (if (t8.2 == (wrap64 ((dlen t8.1) - 1))) = true then (if 0 ≤ t8.2 then (if t8.2 < (dlen t8.1) then ((g17 t9.1 (rd (0, (0, 0)) t8.1 t8.2).1 (rd (0, (0, 0)) t8.1 t8.2).2.1 (rd (0, (0, 0)) t8.1 t8.2).2.2).bind fun t21 =>
 if t21.2 = true then ((g4 t21.1 t8.1).bind fun t22 =>
 some t22) else (some false)) else (none)) else (none)) else (some true)) else (some true))) else (none)) else (none)))) else (if t9.2 = true then (if (t8.2 == (wrap64 ((dlen t8.1) - 1))) = true then (if 0 ≤ t8.2 then (if t8.2 < (dlen t8.1) then ((g17 t9.1 (rd (0, (0, 0)) t8.1 t8.2).1 (rd (0, (0, 0)) t8.1 t8.2).2.1 (rd (0, (0, 0)) t8.1 t8.2).2.2).bind fun t19 =>
 if t19.2 = true then ((g4 t19.1 t8.1).bind fun t20 =>
 some t20) else (some false)) else (none)) else (none)) else (some true)) else (some true))))))))))))))))
noncomputable def l0 : Nat → List Int → List (Int × (Int × Int)) → Int → Int → Int → Int → Option Bool
 | 0, _, _, _, _, _, _ => none
 | k + 1, x0, x1, x2, x3, x4, x5 => b0 (l0 k) impl_DoesFit.f (spec_DrawHarderPuzzle.f k) (impl_HarderPuzzle.f k) (spec_HarderPuzzle.f k) (impl_IsSolved.f k) (laws_qClues.f k) (impl_Solutions.f k) (impl_NeedlessClues.f k) (laws_qSnails.f k) (spec_DrawAddClue.f k) (impl_AddClue.f k) (spec_AddClue.f k) (spec_DrawDropClue.f k) (impl_DropClue.f k) (spec_DropClue.f k) (spec_DrawDoesFit.f k) spec_DoesFit.f spec_DrawIsClue.f impl_IsClue.f spec_IsClue.f x0 x1 x2 x3 x4 x5
noncomputable def f (k : Nat) (a0 a1 : List Int) : Option Bool := b (l0 k) laws_big.f spec_DrawMakePuzzle.f (impl_MakePuzzle.f k) (spec_MakePuzzle.f k) (laws_qClues.f k) impl_DaysToTop.f impl_DoesFit.f impl_EveningHeight.f (impl_IsPuzzle.f k) (spec_DrawHarderPuzzle.f k) (impl_HarderPuzzle.f k) (spec_HarderPuzzle.f k) (impl_IsSolved.f k) (impl_Solutions.f k) (impl_NeedlessClues.f k) (laws_qSnails.f k) (spec_DrawAddClue.f k) (impl_AddClue.f k) (spec_AddClue.f k) (spec_DrawDropClue.f k) (impl_DropClue.f k) (spec_DropClue.f k) (spec_DrawDoesFit.f k) spec_DoesFit.f spec_DrawIsClue.f impl_IsClue.f spec_IsClue.f a0 a1
theorem e (K : Nat) (a0 a1 : List Int) : p (K + 1) a0 a1 = b (q0 K K) (laws_big.p K) (spec_DrawMakePuzzle.p K) (impl_MakePuzzle.p K) (spec_MakePuzzle.p K) (laws_qClues.p K) (impl_DaysToTop.p K) (impl_DoesFit.p K) (impl_EveningHeight.p K) (impl_IsPuzzle.p K) (spec_DrawHarderPuzzle.p K) (impl_HarderPuzzle.p K) (spec_HarderPuzzle.p K) (impl_IsSolved.p K) (impl_Solutions.p K) (impl_NeedlessClues.p K) (laws_qSnails.p K) (spec_DrawAddClue.p K) (impl_AddClue.p K) (spec_AddClue.p K) (spec_DrawDropClue.p K) (impl_DropClue.p K) (spec_DropClue.p K) (spec_DrawDoesFit.p K) (spec_DoesFit.p K) (spec_DrawIsClue.p K) (impl_IsClue.p K) (spec_IsClue.p K) a0 a1 := by kernel_rfl
theorem e0 (K m : Nat) (x0 : List Int) (x1 : List (Int × (Int × Int))) (x2 x3 x4 x5 : Int) : q0 K (m + 1) x0 x1 x2 x3 x4 x5 = b0 (q0 K m) (impl_DoesFit.p K) (spec_DrawHarderPuzzle.p K) (impl_HarderPuzzle.p K) (spec_HarderPuzzle.p K) (impl_IsSolved.p K) (laws_qClues.p K) (impl_Solutions.p K) (impl_NeedlessClues.p K) (laws_qSnails.p K) (spec_DrawAddClue.p K) (impl_AddClue.p K) (spec_AddClue.p K) (spec_DrawDropClue.p K) (impl_DropClue.p K) (spec_DropClue.p K) (spec_DrawDoesFit.p K) (spec_DoesFit.p K) (spec_DrawIsClue.p K) (impl_IsClue.p K) (spec_IsClue.p K) x0 x1 x2 x3 x4 x5 := by kernel_rfl
theorem kl (n : Nat) : ∀ K, n + 9 ≤ K → (∀ m, n ≤ m → ∀ (x0 : List Int) (x1 : List (Int × (Int × Int))) (x2 x3 x4 x5 : Int), Le (l0 n x0 x1 x2 x3 x4 x5) (q0 K m x0 x1 x2 x3 x4 x5)) := by
 induction n with
 | zero => exact fun K _ => fun _ _ _ _ _ _ _ _ => Le.none
 | succ n ih =>
  intro K hK
  have ih := ih K (by omega)
  intro m hm x0 x1 x2 x3 x4 x5
  obtain ⟨m, rfl⟩ := pos_of_le hm
  rw [e0]
  show Le (b0 (l0 n) impl_DoesFit.f (spec_DrawHarderPuzzle.f n) (impl_HarderPuzzle.f n) (spec_HarderPuzzle.f n) (impl_IsSolved.f n) (laws_qClues.f n) (impl_Solutions.f n) (impl_NeedlessClues.f n) (laws_qSnails.f n) (spec_DrawAddClue.f n) (impl_AddClue.f n) (spec_AddClue.f n) (spec_DrawDropClue.f n) (impl_DropClue.f n) (spec_DropClue.f n) (spec_DrawDoesFit.f n) spec_DoesFit.f spec_DrawIsClue.f impl_IsClue.f spec_IsClue.f x0 x1 x2 x3 x4 x5) _
  unfold b0
  repeat' first | with_reducible apply Le.bind | with_reducible apply Le.ite | with_reducible exact Le.rfl | with_reducible refine ih _ ?_ _ _ _ _ _ _ | with_reducible refine impl_DoesFit.k ?_ _ _ _ _ _ | with_reducible refine spec_DrawHarderPuzzle.k ?_ _ | with_reducible refine impl_HarderPuzzle.k ?_ _ | with_reducible refine spec_HarderPuzzle.k ?_ _ | with_reducible refine impl_IsSolved.k ?_ _ | with_reducible refine laws_qClues.k ?_ _ _ | with_reducible refine impl_Solutions.k ?_ _ | with_reducible refine impl_NeedlessClues.k ?_ _ | with_reducible refine laws_qSnails.k ?_ _ _ | with_reducible refine spec_DrawAddClue.k ?_ _ | with_reducible refine impl_AddClue.k ?_ _ _ _ _ | with_reducible refine spec_AddClue.k ?_ _ _ _ _ | with_reducible refine spec_DrawDropClue.k ?_ _ | with_reducible refine impl_DropClue.k ?_ _ _ | with_reducible refine spec_DropClue.k ?_ _ _ | with_reducible refine spec_DrawDoesFit.k ?_ _ | with_reducible refine spec_DoesFit.k ?_ _ _ _ _ _ | with_reducible refine spec_DrawIsClue.k ?_ _ | with_reducible refine impl_IsClue.k ?_ _ _ _ | with_reducible refine spec_IsClue.k ?_ _ _ _ | with_reducible intro _ | omega
theorem k {n K : Nat} (h : n + 10 ≤ K) (a0 a1 : List Int) : Le (f n a0 a1) (p K a0 a1) := by
 obtain ⟨K, rfl⟩ := pos_of_le (show 0 + 1 ≤ K by omega)
 have kl := kl n K (by omega)
 rw [e]
 unfold f b
 repeat' first | with_reducible apply Le.bind | with_reducible apply Le.ite | with_reducible exact Le.rfl | with_reducible refine kl _ ?_ _ _ _ _ _ _ | with_reducible refine laws_big.k ?_ _ _ | with_reducible refine spec_DrawMakePuzzle.k ?_ _ | with_reducible refine impl_MakePuzzle.k ?_ _ _ _ _ | with_reducible refine spec_MakePuzzle.k ?_ _ _ _ _ | with_reducible refine laws_qClues.k ?_ _ _ | with_reducible refine impl_DaysToTop.k ?_ _ _ _ | with_reducible refine impl_DoesFit.k ?_ _ _ _ _ _ | with_reducible refine impl_EveningHeight.k ?_ _ _ _ _ | with_reducible refine impl_IsPuzzle.k ?_ _ | with_reducible refine spec_DrawHarderPuzzle.k ?_ _ | with_reducible refine impl_HarderPuzzle.k ?_ _ | with_reducible refine spec_HarderPuzzle.k ?_ _ | with_reducible refine impl_IsSolved.k ?_ _ | with_reducible refine impl_Solutions.k ?_ _ | with_reducible refine impl_NeedlessClues.k ?_ _ | with_reducible refine laws_qSnails.k ?_ _ _ | with_reducible refine spec_DrawAddClue.k ?_ _ | with_reducible refine impl_AddClue.k ?_ _ _ _ _ | with_reducible refine spec_AddClue.k ?_ _ _ _ _ | with_reducible refine spec_DrawDropClue.k ?_ _ | with_reducible refine impl_DropClue.k ?_ _ _ | with_reducible refine spec_DropClue.k ?_ _ _ | with_reducible refine spec_DrawDoesFit.k ?_ _ | with_reducible refine spec_DoesFit.k ?_ _ _ _ _ _ | with_reducible refine spec_DrawIsClue.k ?_ _ | with_reducible refine impl_IsClue.k ?_ _ _ _ | with_reducible refine spec_IsClue.k ?_ _ _ _ | with_reducible intro _ | omega
end laws_FnSnailsHidden
end Go.Proofs.Ytnpfeemkichniaa.Hi
