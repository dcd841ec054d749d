import Derived.Test.YtnpfeemkichniaaHaF1
namespace Go.Proofs.Ytnpfeemkichniaa.Ha
open Go Go.Proofs.YtnpfeemkichniaaPi Go.RowKit
set_option maxRecDepth 100000
set_option linter.unusedVariables false
namespace laws_FnSnailsHiddenOfAll
noncomputable def p (K : Nat) (a0 a1 a2 a3 : Int) (a4 a5 : List (Int × (Int × Int))) (a6 a7 a8 : Int) (a9 : List (Int × (Int × Int))) (a10 a11 a12 a13 a14 a15 a16 a17 a18 : Int) : Option Bool := PI Cx K 3 [.sv (.agg [.int .i64 a0, .int .i64 a1]), .sv (.one (.int .i64 a2)), .sv (.one (.int .i64 a3)), .sv (.agg [.sl 28 (.pair (.int .i64) (.pair (.int .i64) (.int .i64))) a4]), .sv (.agg [.sl 28 (.pair (.int .i64) (.pair (.int .i64) (.int .i64))) a5]), .sv (.agg [.int .i64 a6, .int .i64 a7, .int .i64 a8]), .sv (.agg [.sl 28 (.pair (.int .i64) (.pair (.int .i64) (.int .i64))) a9]), .sv (.one (.int .i64 a10)), .sv (.agg [.int .i64 a11, .int .i64 a12, .int .i64 a13]), .sv (.agg [.int .i64 a14, .int .i64 a15]), .sv (.agg [.int .i64 a16, .int .i64 a17, .int .i64 a18])]
noncomputable def q0 (K m : Nat) (x0 : Int) (x1 : List (Int × (Int × Int))) (x2 x3 x4 x5 : Int) (x6 x7 : List (Int × (Int × Int))) (x8 x9 x10 : Int) (x11 : List (Int × (Int × Int))) (x12 x13 x14 x15 x16 x17 x18 x19 : Int) : Option Bool := loopAt Cx K 3 [true, true, true, true, false, true, false, true, true, true, true, true, true, true, true] [] m ⟨[(7, .sv (.one (.int .i64 x0))), (11, .sv (.one (.ptr 0 0))), (14, .sv (.one (.ptr 1000 0))), (15, .sv (.one (.ptr 2000 0))), (16, .sv (.one (.ptr 3000 0))), (17, .sv (.one (.ptr 4000 0))), (19, .sv (.one (.ptr 5000 0))), (20, .sv (.one (.ptr 6000 0))), (21, .sv (.one (.ptr 7000 0))), (177, .sv (.one (.sl 28 (.pair (.int .i64) (.pair (.int .i64) (.int .i64))) x1))), (178, .sv (.one (.int .i64 x2))), (179, .sv (.one (.int .i64 x3)))], [(0, .box 23 [.int .i64 x4, .int .i64 x5]), (1000, .box 26 [.sl 28 (.pair (.int .i64) (.pair (.int .i64) (.int .i64))) x6]), (2000, .box 26 [.sl 28 (.pair (.int .i64) (.pair (.int .i64) (.int .i64))) x7]), (3000, .box 28 [.int .i64 x8, .int .i64 x9, .int .i64 x10]), (4000, .box 26 [.sl 28 (.pair (.int .i64) (.pair (.int .i64) (.int .i64))) x11]), (5000, .box 28 [.int .i64 x12, .int .i64 x13, .int .i64 x14]), (6000, .box 23 [.int .i64 x15, .int .i64 x16]), (7000, .box 28 [.int .i64 x17, .int .i64 x18, .int .i64 x19])], []⟩
noncomputable def b (L0 : Int → List (Int × (Int × Int)) → Int → Int → Int → Int → List (Int × (Int × Int)) → List (Int × (Int × Int)) → Int → Int → Int → List (Int × (Int × Int)) → Int → Int → Int → Int → Int → Int → Int → Int → Option Bool) (g0 : Int → Int → Int → Int → Option ((List (Int × (Int × Int))) × Bool)) (g1 : Int → Int → Int → Int → Option ((List (Int × (Int × Int))) × Bool)) (g2 : List (Int × (Int × Int)) → List (Int × (Int × Int)) → Option Bool) (g3 : Int → Int → Int → Option (Int × Bool)) (g4 : Int → Int → Int → Int → Int → Option (Bool × Bool)) (g5 : Int → Int → Int → Int → Option (Int × Bool)) (g6 : List (Int × (Int × Int)) → Option Bool) (g7 : List (Int × (Int × Int)) → Option ((List (Int × (Int × Int))) × Bool)) (g8 : List (Int × (Int × Int)) → Option ((List (Int × (Int × Int))) × Bool)) (g9 : List (Int × (Int × Int)) → Option (Bool × Bool)) (g10 : List (Int × (Int × Int)) → Option ((List (Int × Int)) × Bool)) (g11 : List (Int × (Int × Int)) → Option ((List Int) × Bool)) (g12 : List (Int × Int) → List (Int × Int) → Option Bool) (g13 : List (Int × (Int × Int)) → Int → Int → Int → Option ((List (Int × (Int × Int))) × Bool)) (g14 : List (Int × (Int × Int)) → Int → Int → Int → Option ((List (Int × (Int × Int))) × Bool)) (g15 : List (Int × (Int × Int)) → Int → Option ((List (Int × (Int × Int))) × Bool)) (g16 : List (Int × (Int × Int)) → Int → Option ((List (Int × (Int × Int))) × Bool)) (g17 : Int → Int → Int → Int → Int → Option (Bool × Bool)) (g18 : Int → Int → Int → Option Bool) (g19 : Int → Int → Int → Option Bool) (a0 a1 a2 a3 : Int) (a4 a5 : List (Int × (Int × Int))) (a6 a7 a8 : Int) (a9 : List (Int × (Int × Int))) (a10 a11 a12 a13 a14 a15 a16 a17 a18 : Int) : Option Bool :=
 (g0 a0 a1 a2 a3).bind fun t0 =>
 (g1 a0 a1 a2 a3).bind fun t1 =>
 if (!(t0.2 == t1.2)) = true then (some false) else ((g2 t0.1 t1.1).bind fun t2 =>
 if (!t2) = true then (some false) else (if t0.2 = true then ((g3 a0 a1 50).bind fun t3 =>
 (g4 0 50 t3.1 a0 a1).bind fun t4 =>
 (g5 a0 a1 100 7).bind fun t5 =>
 (g4 1 7 t5.1 a0 a1).bind fun t6 =>
 (g4 4 0 (wrap64 (a0 - a1)) a0 a1).bind fun t7 =>
 (g6 t0.1).bind fun t8 =>
 if (!t8) = true then (some false) else (if ((dlen t0.1) != a2) = true then (some false) else (if (!t3.2) = true then (if (t3.1 != 0) = true then (some false) else (if (!t4.2) = true then (some false) else (if (!t4.1) = true then (some false) else (if (!t5.2) = true then (some false) else (if (!t6.2) = true then (some false) else (if (!t6.1) = true then (some false) else (if (!t7.2) = true then (some false) else (if (!t7.1) = true then (some false) else (L0 a10 t0.1 (dlen t0.1) 0 a0 a1 a4 a5 a6 a7 a8 a9 a11 a12 a13 a14 a15 a16 a17 a18))))))))) else (if (!t4.2) = true then (some false) else (if (!t4.1) = true then (some false) else (if (!t5.2) = true then (some false) else (if (!t6.2) = true then (some false) else (if (!t6.1) = true then (some false) else (if (!t7.2) = true then (some false) else (if (!t7.1) = true then (some false) else (L0 a10 t0.1 (dlen t0.1) 0 a0 a1 a4 a5 a6 a7 a8 a9 a11 a12 a13 a14 a15 a16 a17 a18))))))))))) else ((g7 a4).bind fun t3 =>
 (g8 a4).bind fun t4 =>
 (g9 a4).bind fun t5 =>
 if (!(t3.2 == t4.2)) = true then (some false) else ((g2 t3.1 t4.1).bind fun t6 =>
 if (!t6) = true then (some false) else (if t5.2 = true then (if (!(t3.2 == t5.1)) = true then (some false) else (if t3.2 = true then ((g10 a4).bind fun t7 =>
 (g10 t3.1).bind fun t8 =>
 (g11 t3.1).bind fun t9 =>
 if (!t7.2) = true then (some false) else (if (!t8.2) = true then (some false) else ((g12 t7.1 t8.1).bind fun t10 =>
 if (!t10) = true then (some false) else (if (!t9.2) = true then (some false) else (if ((dlen t9.1) != 0) = true then (some false) else (if (decide ((dlen t3.1) > (dlen a4))) = true then (some false) else ((g13 a5 a6 a7 a8).bind fun t11 =>
 (g14 a5 a6 a7 a8).bind fun t12 =>
 (g15 a9 a10).bind fun t13 =>
 (g16 a9 a10).bind fun t14 =>
 (g4 a11 a12 a13 a14 a15).bind fun t15 =>
 (g17 a11 a12 a13 a14 a15).bind fun t16 =>
 if (!(t11.2 == t12.2)) = true then (some false) else ((g2 t11.1 t12.1).bind fun t17 =>
 if (!t17) = true then (some false) else (if (!(t13.2 == t14.2)) = true then (some false) else ((g2 t13.1 t14.1).bind fun t18 =>
 if (!t18) = true then (some false) else (if (!(t15.2 == t16.2)) = true then (some false) else (if (!(t15.1 == t16.1)) = true then (some false) else ((g18 a16 a17 a18).bind fun t19 =>
 (g19 a16 a17 a18).bind fun t20 =>
 if (!(t19 == t20)) = true then (some false) else (if t15.2 = true then ((g18 a11 a12 a13).bind fun t21 =>
 if (!t21) = true then (some false) else (if t11.2 = true then ((g15 t11.1 (dlen a5)).bind fun t22 =>
 if (!t22.2) = true then (some false) else ((g2 t22.1 a5).bind fun t23 =>
 if (!t23) = true then (some false) else (if 0 ≤ (dlen a5) then (if (dlen a5) < (dlen t11.1) then (if (!(((rd (0, (0, 0)) t11.1 (dlen a5)).1 == a6) && (((rd (0, (0, 0)) t11.1 (dlen a5)).2.1 == a7) && ((rd (0, (0, 0)) t11.1 (dlen a5)).2.2 == a8)))) = true then (some false) else (if t13.2 = true then (if (a10 == (wrap64 ((dlen a9) - 1))) = true then (if 0 ≤ a10 then (if a10 < (dlen a9) then ((g13 t13.1 (rd (0, (0, 0)) a9 a10).1 (rd (0, (0, 0)) a9 a10).2.1 (rd (0, (0, 0)) a9 a10).2.2).bind fun t24 =>
 if t24.2 = true then ((g2 t24.1 a9).bind fun t25 =>
 some t25) else (some false)) else (none)) else (none)) else (some true)) else (some true))) else (none)) else (none)))) else (if t13.2 = true then (if (a10 == (wrap64 ((dlen a9) - 1))) = true then (if 0 ≤ a10 then (if a10 < (dlen a9) then ((g13 t13.1 (rd (0, (0, 0)) a9 a10).1 (rd (0, (0, 0)) a9 a10).2.1 (rd (0, (0, 0)) a9 a10).2.2).bind fun t22 =>
 if t22.2 = true then ((g2 t22.1 a9).bind fun t23 =>
 some t23) else (some false)) else (none)) else (none)) else (some true)) else (some true)))) else (if t11.2 = true then ((g15 t11.1 (dlen a5)).bind fun t21 =>
 if (!t21.2) = true then (some false) else ((g2 t21.1 a5).bind fun t22 =>
 if (!t22) = true then (some false) else (if 0 ≤ (dlen a5) then (if (dlen a5) < (dlen t11.1) then (if (!(((rd (0, (0, 0)) t11.1 (dlen a5)).1 == a6) && (((rd (0, (0, 0)) t11.1 (dlen a5)).2.1 == a7) && ((rd (0, (0, 0)) t11.1 (dlen a5)).2.2 == a8)))) = true then (some false) else (if t13.2 = true then (if (a10 == (wrap64 ((dlen a9) - 1))) = true then (if 0 ≤ a10 then (if a10 < (dlen a9) then ((g13 t13.1 (rd (0, (0, 0)) a9 a10).1 (rd (0, (0, 0)) a9 a10).2.1 (rd (0, (0, 0)) a9 a10).2.2).bind fun t23 =>
 if t23.2 = true then ((g2 t23.1 a9).bind fun t24 =>
 some t24) else (some false)) else (none)) else (none)) else (some true)) else (some true))) else (none)) else (none)))) else (if t13.2 = true then (if (a10 == (wrap64 ((dlen a9) - 1))) = true then (if 0 ≤ a10 then (if a10 < (dlen a9) then ((g13 t13.1 (rd (0, (0, 0)) a9 a10).1 (rd (0, (0, 0)) a9 a10).2.1 (rd (0, (0, 0)) a9 a10).2.2).bind fun t21 =>
 if t21.2 = true then ((g2 t21.1 a9).bind fun t22 =>
 some t22) else (some false)) else (none)) else (none)) else (some true)) else (some true))))))))))))))))) else ((g13 a5 a6 a7 a8).bind fun t7 =>
 (g14 a5 a6 a7 a8).bind fun t8 =>
 (g15 a9 a10).bind fun t9 =>
 (g16 a9 a10).bind fun t10 =>
 (g4 a11 a12 a13 a14 a15).bind fun t11 =>
 (g17 a11 a12 a13 a14 a15).bind fun t12 =>
 if (!(t7.2 == t8.2)) = true then (some false) else ((g2 t7.1 t8.1).bind fun t13 =>
 if (!t13) = true then (some false) else (if (!(t9.2 == t10.2)) = true then (some false) else ((g2 t9.1 t10.1).bind fun t14 =>
 if (!t14) = true then (some false) else (if (!(t11.2 == t12.2)) = true then (some false) else (if (!(t11.1 == t12.1)) = true then (some false) else ((g18 a16 a17 a18).bind fun t15 =>
 (g19 a16 a17 a18).bind fun t16 =>
 if (!(t15 == t16)) = true then (some false) else (if t11.2 = true then ((g18 a11 a12 a13).bind fun t17 =>
 if (!t17) = true then (some false) else (if t7.2 = true then ((g15 t7.1 (dlen a5)).bind fun t18 =>
 if (!t18.2) = true then (some false) else ((g2 t18.1 a5).bind fun t19 =>
 if (!t19) = true then (some false) else (if 0 ≤ (dlen a5) then (if (dlen a5) < (dlen t7.1) then (if (!(((rd (0, (0, 0)) t7.1 (dlen a5)).1 == a6) && (((rd (0, (0, 0)) t7.1 (dlen a5)).2.1 == a7) && ((rd (0, (0, 0)) t7.1 (dlen a5)).2.2 == a8)))) = true then (some false) else (if t9.2 = true then (if (a10 == (wrap64 ((dlen a9) - 1))) = true then (if 0 ≤ a10 then (if a10 < (dlen a9) then ((g13 t9.1 (rd (0, (0, 0)) a9 a10).1 (rd (0, (0, 0)) a9 a10).2.1 (rd (0, (0, 0)) a9 a10).2.2).bind fun t20 =>
 if t20.2 = true then ((g2 t20.1 a9).bind fun t21 =>
 some t21) else (some false)) else (none)) else (none)) else (some true)) else (some true))) else (none)) else (none)))) else (if t9.2 = true then (if (a10 == (wrap64 ((dlen a9) - 1))) = true then (if 0 ≤ a10 then (if a10 < (dlen a9) then ((g13 t9.1 (rd (0, (0, 0)) a9 a10).1 (rd (0, (0, 0)) a9 a10).2.1 (rd (0, (0, 0)) a9 a10).2.2).bind fun t18 =>
 if t18.2 = true then ((g2 t18.1 a9).bind fun t19 =>
 some t19) else (some false)) else (none)) else (none)) else (some true)) else (some true)))) else (if t7.2 = true then ((g15 t7.1 (dlen a5)).bind fun t17 =>
 if (!t17.2) = true then (some false) else ((g2 t17.1 a5).bind fun t18 =>
 if (!t18) = true then (some false) else (if 0 ≤ (dlen a5) then (if (dlen a5) < (dlen t7.1) then (if (!(((rd (0, (0, 0)) t7.1 (dlen a5)).1 == a6) && (((rd (0, (0, 0)) t7.1 (dlen a5)).2.1 == a7) && ((rd (0, (0, 0)) t7.1 (dlen a5)).2.2 == a8)))) = true then (some false) else (if t9.2 = true then (if (a10 == (wrap64 ((dlen a9) - 1))) = true then (if 0 ≤ a10 then (if a10 < (dlen a9) then ((g13 t9.1 (rd (0, (0, 0)) a9 a10).1 (rd (0, (0, 0)) a9 a10).2.1 (rd (0, (0, 0)) a9 a10).2.2).bind fun t19 =>
 if t19.2 = true then ((g2 t19.1 a9).bind fun t20 =>
 some t20) else (some false)) else (none)) else (none)) else (some true)) else (some true))) else (none)) else (none)))) else (if t9.2 = true then (if (a10 == (wrap64 ((dlen a9) - 1))) = true then (if 0 ≤ a10 then (if a10 < (dlen a9) then ((g13 t9.1 (rd (0, (0, 0)) a9 a10).1 (rd (0, (0, 0)) a9 a10).2.1 (rd (0, (0, 0)) a9 a10).2.2).bind fun t17 =>
 if t17.2 = true then ((g2 t17.1 a9).bind fun t18 =>
 some t18) else (some false)) else (none)) else (none)) else (some true)) else (some true))))))))))))) else (if (!(t3.2 == false)) = true then (some false) else (if t3.2 = true then ((g10 a4).bind fun t7 =>
 (g10 t3.1).bind fun t8 =>
 (g11 t3.1).bind fun t9 =>
 if (!t7.2) = true then (some false) else (if (!t8.2) = true then (some false) else ((g12 t7.1 t8.1).bind fun t10 =>
 if (!t10) = true then (some false) else (if (!t9.2) = true then (some false) else (if ((dlen t9.1) != 0) = true then (some false) else (if (decide ((dlen t3.1) > (dlen a4))) = true then (some false) else ((g13 a5 a6 a7 a8).bind fun t11 =>
 (g14 a5 a6 a7 a8).bind fun t12 =>
 (g15 a9 a10).bind fun t13 =>
 (g16 a9 a10).bind fun t14 =>
 (g4 a11 a12 a13 a14 a15).bind fun t15 =>
 (g17 a11 a12 a13 a14 a15).bind fun t16 =>
 if (!(t11.2 == t12.2)) = true then (some false) else ((g2 t11.1 t12.1).bind fun t17 =>
 if (!t17) = true then (some false) else (if (!(t13.2 == t14.2)) = true then (some false) else ((g2 t13.1 t14.1).bind fun t18 =>
 if (!t18) = true then (some false) else (if (!(t15.2 == t16.2)) = true then (some false) else (if (!(t15.1 == t16.1)) = true then (some false) else ((g18 a16 a17 a18).bind fun t19 =>
 (g19 a16 a17 a18).bind fun t20 =>
 if (!(t19 == t20)) = true then (some false) else (if t15.2 = true then ((g18 a11 a12 a13).bind fun t21 =>
 if (!t21) = true then (some false) else (if t11.2 = true then ((g15 t11.1 (dlen a5)).bind fun t22 =>
 if (!t22.2) = true then (some false) else ((g2 t22.1 a5).bind fun t23 =>
 if (!t23) = true then (some false) else (if 0 ≤ (dlen a5) then (if (dlen a5) < (dlen t11.1) then (if (!(((rd (0, (0, 0)) t11.1 (dlen a5)).1 == a6) && (((rd (0, (0, 0)) t11.1 (dlen a5)).2.1 == a7) && ((rd (0, (0, 0)) t11.1 (dlen a5)).2.2 == a8)))) = true then (some false) else (if t13.2 = true then (if (a10 == (wrap64 ((dlen a9) - 1))) = true then (if 0 ≤ a10 then (if a10 < (dlen a9) then ((g13 t13.1 (rd (0, (0, 0)) a9 a10).1 (rd (0, (0, 0)) a9 a10).2.1 (rd (0, (0, 0)) a9 a10).2.2).bind fun t24 =>
 if t24.2 = true then ((g2 t24.1 a9).bind fun t25 =>
 some t25) else (some false)) else (none)) else (none)) else (some true)) else (some true))) else (none)) else (none)))) else (if t13.2 = true then (if (a10 == (wrap64 ((dlen a9) - 1))) = true then (if 0 ≤ a10 then (if a10 < (dlen a9) then ((g13 t13.1 (rd (0, (0, 0)) a9 a10).1 (rd (0, (0, 0)) a9 a10).2.1 (rd (0, (0, 0)) a9 a10).2.2).bind fun t22 =>
 if t22.2 = true then ((g2 t22.1 a9).bind fun t23 =>
 some t23) else (some false)) else (none)) else (none)) else (some true)) else (some true)))) else (if t11.2 = true then ((g15 t11.1 (dlen a5)).bind fun t21 =>
 if (!t21.2) = true then (some false) else ((g2 t21.1 a5).bind fun t22 =>
 if (!t22) = true then (some false) else (if 0 ≤ (dlen a5) then (if (dlen a5) < (dlen t11.1) then (if (!(((rd (0, (0, 0)) t11.1 (dlen a5)).1 == a6) && (((rd (0, (0, 0)) t11.1 (dlen a5)).2.1 == a7) && ((rd (0, (0, 0)) t11.1 (dlen a5)).2.2 == a8)))) = true then (some false) else (if t13.2 = true then (if (a10 == (wrap64 ((dlen a9) - 1))) = true then (if 0 ≤ a10 then (if a10 < (dlen a9) then ((g13 t13.1 (rd (0, (0, 0)) a9 a10).1 (rd (0, (0, 0)) a9 a10).2.1 (rd (0, (0, 0)) a9 a10).2.2).bind fun t23 =>
 if t23.2 = true then ((g2 t23.1 a9).bind fun t24 =>
 some t24) else (some false)) else (none)) else (none)) else (some true)) else (some true))) else (none)) else (none)))) else (if t13.2 = true then (if (a10 == (wrap64 ((dlen a9) - 1))) = true then (if 0 ≤ a10 then (if a10 < (dlen a9) then ((g13 t13.1 (rd (0, (0, 0)) a9 a10).1 (rd (0, (0, 0)) a9 a10).2.1 (rd (0, (0, 0)) a9 a10).2.2).bind fun t21 =>
 if t21.2 = true then ((g2 t21.1 a9).bind fun t22 =>
 some t22) else (some false)) else (none)) else (none)) else (some true)) else (some true))))))))))))))))) else ((g13 a5 a6 a7 a8).bind fun t7 =>
 (g14 a5 a6 a7 a8).bind fun t8 =>
 (g15 a9 a10).bind fun t9 =>
 (g16 a9 a10).bind fun t10 =>
 (g4 a11 a12 a13 a14 a15).bind fun t11 =>
 (g17 a11 a12 a13 a14 a15).bind fun t12 =>
 if (!(t7.2 == t8.2)) = true then (some false) else ((g2 t7.1 t8.1).bind fun t13 =>
 if (!t13) = true then (some false) else (if (!(t9.2 == t10.2)) = true then (some false) else ((g2 t9.1 t10.1).bind fun t14 =>
 if (!t14) = true then (some false) else (if (!(t11.2 == t12.2)) = true then (some false) else (if (!(t11.1 == t12.1)) = true then (some false) else ((g18 a16 a17 a18).bind fun t15 =>
 (g19 a16 a17 a18).bind fun t16 =>
 if (!(t15 == t16)) = true then (some false) else (if t11.2 = true then ((g18 a11 a12 a13).bind fun t17 =>
 if (!t17) = true then (some false) else (if t7.2 = true then ((g15 t7.1 (dlen a5)).bind fun t18 =>
 if (!t18.2) = true then (some false) else ((g2 t18.1 a5).bind fun t19 =>
 if (!t19) = true then (some false) else (if 0 ≤ (dlen a5) then (if (dlen a5) < (dlen t7.1) then (if (!(((rd (0, (0, 0)) t7.1 (dlen a5)).1 == a6) && (((rd (0, (0, 0)) t7.1 (dlen a5)).2.1 == a7) && ((rd (0, (0, 0)) t7.1 (dlen a5)).2.2 == a8)))) = true then (some false) else (if t9.2 = true then (if (a10 == (wrap64 ((dlen a9) - 1))) = true then (if 0 ≤ a10 then (if a10 < (dlen a9) then ((g13 t9.1 (rd (0, (0, 0)) a9 a10).1 (rd (0, (0, 0)) a9 a10).2.1 (rd (0, (0, 0)) a9 a10).2.2).bind fun t20 =>
 if t20.2 = true then ((g2 t20.1 a9).bind fun t21 =>
 some t21) else (some false)) else (none)) else (none)) else (some true)) else (some true))) else (none)) else (none)))) else (if t9.2 = true then (if (a10 == (wrap64 ((dlen a9) - 1))) = true then (if 0 ≤ a10 then (if a10 < (dlen a9) then ((g13 t9.1 (rd (0, (0, 0)) a9 a10).1 (rd (0, (0, 0)) a9 a10).2.1 (rd (0, (0, 0)) a9 a10).2.2).bind fun t18 =>
 if t18.2 = true then ((g2 t18.1 a9).bind fun t19 =>
 some t19) else (some false)) else (none)) else (none)) else (some true)) else (some true)))) else (if t7.2 = true then ((g15 t7.1 (dlen a5)).bind fun t17 =>
 if (!t17.2) = true then (some false) else ((g2 t17.1 a5).bind fun t18 =>
 if (!t18) = true then (some false) else (if 0 ≤ (dlen a5) then (if (dlen a5) < (dlen t7.1) then (if (!(((rd (0, (0, 0)) t7.1 (dlen a5)).1 == a6) && (((rd (0, (0, 0)) t7.1 (dlen a5)).2.1 == a7) && ((rd (0, (0, 0)) t7.1 (dlen a5)).2.2 == a8)))) = true then (some false) else (if t9.2 = true then (if (a10 == (wrap64 ((dlen a9) - 1))) = true then (if 0 ≤ a10 then (if a10 < (dlen a9) then ((g13 t9.1 (rd (0, (0, 0)) a9 a10).1 (rd (0, (0, 0)) a9 a10).2.1 (rd (0, (0, 0)) a9 a10).2.2).bind fun t19 =>
 if t19.2 = true then ((g2 t19.1 a9).bind fun t20 =>
 some t20) else (some false)) else (none)) else (none)) else (some true)) else (some true))) else (none)) else (none)))) else (if t9.2 = true then (if (a10 == (wrap64 ((dlen a9) - 1))) = true then (if 0 ≤ a10 then (if a10 < (dlen a9) then ((g13 t9.1 (rd (0, (0, 0)) a9 a10).1 (rd (0, (0, 0)) a9 a10).2.1 (rd (0, (0, 0)) a9 a10).2.2).bind fun t17 =>
 if t17.2 = true then ((g2 t17.1 a9).bind fun t18 =>
 some t18) else (some false)) else (none)) else (none)) else (some true)) else (some true))))))))))))))))))
noncomputable def b0 (L0 : Int → List (Int × (Int × Int)) → Int → Int → Int → Int → List (Int × (Int × Int)) → List (Int × (Int × Int)) → Int → Int → Int → List (Int × (Int × Int)) → Int → Int → Int → Int → Int → Int → Int → Int → Option Bool) (g4 : Int → Int → Int → Int → Int → Option (Bool × Bool)) (g7 : List (Int × (Int × Int)) → Option ((List (Int × (Int × Int))) × Bool)) (g8 : List (Int × (Int × Int)) → Option ((List (Int × (Int × Int))) × Bool)) (g9 : List (Int × (Int × Int)) → Option (Bool × Bool)) (g2 : List (Int × (Int × Int)) → List (Int × (Int × Int)) → Option Bool) (g10 : List (Int × (Int × Int)) → Option ((List (Int × Int)) × Bool)) (g11 : List (Int × (Int × Int)) → Option ((List Int) × Bool)) (g12 : List (Int × Int) → List (Int × Int) → Option Bool) (g13 : List (Int × (Int × Int)) → Int → Int → Int → Option ((List (Int × (Int × Int))) × Bool)) (g14 : List (Int × (Int × Int)) → Int → Int → Int → Option ((List (Int × (Int × Int))) × Bool)) (g15 : List (Int × (Int × Int)) → Int → Option ((List (Int × (Int × Int))) × Bool)) (g16 : List (Int × (Int × Int)) → Int → Option ((List (Int × (Int × Int))) × Bool)) (g17 : Int → Int → Int → Int → Int → Option (Bool × Bool)) (g18 : Int → Int → Int → Option Bool) (g19 : Int → Int → Int → Option Bool) (x0 : Int) (x1 : List (Int × (Int × Int))) (x2 x3 x4 x5 : Int) (x6 x7 : List (Int × (Int × Int))) (x8 x9 x10 : Int) (x11 : List (Int × (Int × Int))) (x12 x13 x14 x15 x16 x17 x18 x19 : Int) : Option Bool :=
 if (decide (x3 < x2)) = true then (if 0 ≤ x3 then (if x3 < (dlen x1) then ((g4 (rd (0, (0, 0)) x1 x3).1 (rd (0, (0, 0)) x1 x3).2.1 (rd (0, (0, 0)) x1 x3).2.2 x4 x5).bind fun t0 =>
 if (!t0.2) = true then (some false) else (if (!t0.1) = true then (some false) else (L0 x0 x1 x2 (wrap64 (x3 + 1)) x4 x5 x6 x7 x8 x9 x10 x11 x12 x13 x14 x15 x16 x17 x18 x19))) else (none)) else (none)) else ((g7 x6).bind fun t0 =>
 (g8 x6).bind fun t1 =>
 (g9 x6).bind fun t2 =>
 if (!(t0.2 == t1.2)) = true then (some false) else ((g2 t0.1 t1.1).bind fun t3 =>
 if (!t3) = true then (some false) else (if t2.2 = true then (if (!(t0.2 == t2.1)) = true then (some false) else (if t0.2 = true then ((g10 x6).bind fun t4 =>
 (g10 t0.1).bind fun t5 =>
 (g11 t0.1).bind fun t6 =>
 if (!t4.2) = true then (some false) else (if (!t5.2) = true then (some false) else ((g12 t4.1 t5.1).bind fun t7 =>
 if (!t7) = true then (some false) else (if (!t6.2) = true then (some false) else (if ((dlen t6.1) != 0) = true then (some false) else (if (decide ((dlen t0.1) > (dlen x6))) = true then (some false) else ((g13 x7 x8 x9 x10).bind fun t8 =>
 (g14 x7 x8 x9 x10).bind fun t9 =>
 (g15 x11 x0).bind fun t10 =>
 (g16 x11 x0).bind fun t11 =>
 (g4 x12 x13 x14 x15 x16).bind fun t12 =>
 (g17 x12 x13 x14 x15 x16).bind fun t13 =>
 if (!(t8.2 == t9.2)) = true then (some false) else ((g2 t8.1 t9.1).bind fun t14 =>
 if (!t14) = true then (some false) else (if (!(t10.2 == t11.2)) = true then (some false) else ((g2 t10.1 t11.1).bind fun t15 =>
 if (!t15) = true then (some false) else (if (!(t12.2 == t13.2)) = true then (some false) else (if (!(t12.1 == t13.1)) = true then (some false) else ((g18 x17 x18 x19).bind fun t16 =>
 (g19 x17 x18 x19).bind fun t17 =>
 if (!(t16 == t17)) = true then (some false) else (if t12.2 = true then ((g18 x12 x13 x14).bind fun t18 =>
 if (!t18) = true then (some false) else (if t8.2 = true then ((g15 t8.1 (dlen x7)).bind fun t19 =>
 if (!t19.2) = true then (some false) else ((g2 t19.1 x7).bind fun t20 =>
 if (!t20) = true then (some false) else (if 0 ≤ (dlen x7) then (if (dlen x7) < (dlen t8.1) then (if (!(((rd (0, (0, 0)) t8.1 (dlen x7)).1 == x8) && (((rd (0, (0, 0)) t8.1 (dlen x7)).2.1 == x9) && ((rd (0, (0, 0)) t8.1 (dlen x7)).2.2 == x10)))) = true then (some false) else (if t10.2 = true then (if (x0 == (wrap64 ((dlen x11) - 1))) = true then (if 0 ≤ x0 then (if x0 < (dlen x11) then ((g13 t10.1 (rd (0, (0, 0)) x11 x0).1 (rd (0, (0, 0)) x11 x0).2.1 (rd (0, (0, 0)) x11 x0).2.2).bind fun t21 =>
 if t21.2 = true then ((g2 t21.1 x11).bind fun t22 =>
 some t22) else (some false)) else (none)) else (none)) else (some true)) else (some true))) else (none)) else (none)))) else (if t10.2 = true then (if (x0 == (wrap64 ((dlen x11) - 1))) = true then (if 0 ≤ x0 then (if x0 < (dlen x11) then ((g13 t10.1 (rd (0, (0, 0)) x11 x0).1 (rd (0, (0, 0)) x11 x0).2.1 (rd (0, (0, 0)) x11 x0).2.2).bind fun t19 =>
 if t19.2 = true then ((g2 t19.1 x11).bind fun t20 =>
 some t20) else (some false)) else (none)) else (none)) else (some true)) else (some true)))) else (if t8.2 = true then ((g15 t8.1 (dlen x7)).bind fun t18 =>
 if (!t18.2) = true then (some false) else ((g2 t18.1 x7).bind fun t19 =>
 if (!t19) = true then (some false) else (if 0 ≤ (dlen x7) then (if (dlen x7) < (dlen t8.1) then (if (!(((rd (0, (0, 0)) t8.1 (dlen x7)).1 == x8) && (((rd (0, (0, 0)) t8.1 (dlen x7)).2.1 == x9) && ((rd (0, (0, 0)) t8.1 (dlen x7)).2.2 == x10)))) = true then (some false) else (if t10.2 = true then (if (x0 == (wrap64 ((dlen x11) - 1))) = true then (if 0 ≤ x0 then (if x0 < (dlen x11) then ((g13 t10.1 (rd (0, (0, 0)) x11 x0).1 (rd (0, (0, 0)) x11 x0).2.1 (rd (0, (0, 0)) x11 x0).2.2).bind fun t20 =>
 if t20.2 = true then ((g2 t20.1 x11).bind fun t21 =>
 some t21) else (some false)) else (none)) else (none)) else (some true)) else (some true))) else (none)) else (none)))) else (if t10.2 = true then (if (x0 == (wrap64 ((dlen x11) - 1))) = true then (if 0 ≤ x0 then (if x0 < (dlen x11) then ((g13 t10.1 (rd (0, (0, 0)) x11 x0).1 (rd (0, (0, 0)) x11 x0).2.1 (rd (0, (0, 0)) x11 x0).2.2).bind fun t18 =>
 if t18.2 = true then ((g2 t18.1 x11).bind fun t19 =>
 some t19) else (some false)) else (none)) else (none)) else (some true)) else (some true))))))))))))))))) else ((g13 x7 x8 x9 x10).bind fun t4 =>
 (g14 x7 x8 x9 x10).bind fun t5 =>
 (g15 x11 x0).bind fun t6 =>
 (g16 x11 x0).bind fun t7 =>
 (g4 x12 x13 x14 x15 x16).bind fun t8 =>
 (g17 x12 x13 x14 x15 x16).bind fun t9 =>
 if (!(t4.2 == t5.2)) = true then (some false) else ((g2 t4.1 t5.1).bind fun t10 =>
 if (!t10) = true then (some false) else (if (!(t6.2 == t7.2)) = true then (some false) else ((g2 t6.1 t7.1).bind fun t11 =>
 if (!t11) = true then (some false) else (if (!(t8.2 == t9.2)) = true then (some false) else (if (!(t8.1 == t9.1)) = true then (some false) else ((g18 x17 x18 x19).bind fun t12 =>
 (g19 x17 x18 x19).bind fun t13 =>
 if (!(t12 == t13)) = true then (some false) else (if t8.2 = true then ((g18 x12 x13 x14).bind fun t14 =>
 if (!t14) = true then (some false) else (if t4.2 = true then ((g15 t4.1 (dlen x7)).bind fun t15 =>
 if (!t15.2) = true then (some false) else ((g2 t15.1 x7).bind fun t16 =>
 if (!t16) = true then (some false) else (if 0 ≤ (dlen x7) then (if (dlen x7) < (dlen t4.1) then (if (!(((rd (0, (0, 0)) t4.1 (dlen x7)).1 == x8) && (((rd (0, (0, 0)) t4.1 (dlen x7)).2.1 == x9) && ((rd (0, (0, 0)) t4.1 (dlen x7)).2.2 == x10)))) = true then (some false) else (if t6.2 = true then (if (x0 == (wrap64 ((dlen x11) - 1))) = true then (if 0 ≤ x0 then (if x0 < (dlen x11) then ((g13 t6.1 (rd (0, (0, 0)) x11 x0).1 (rd (0, (0, 0)) x11 x0).2.1 (rd (0, (0, 0)) x11 x0).2.2).bind fun t17 =>
 if t17.2 = true then ((g2 t17.1 x11).bind fun t18 =>
 some t18) else (some false)) else (none)) else (none)) else (some true)) else (some true))) else (none)) else (none)))) else (if t6.2 = true then (if (x0 == (wrap64 ((dlen x11) - 1))) = true then (if 0 ≤ x0 then (if x0 < (dlen x11) then ((g13 t6.1 (rd (0, (0, 0)) x11 x0).1 (rd (0, (0, 0)) x11 x0).2.1 (rd (0, (0, 0)) x11 x0).2.2).bind fun t15 =>
 if t15.2 = true then ((g2 t15.1 x11).bind fun t16 =>
 some t16) else (some false)) else (none)) else (none)) else (some true)) else (some true)))) else (if t4.2 = true then ((g15 t4.1 (dlen x7)).bind fun t14 =>
 if (!t14.2) = true then (some false) else ((g2 t14.1 x7).bind fun t15 =>
 if (!t15) = true then (some false) else (if 0 ≤ (dlen x7) then (if (dlen x7) < (dlen t4.1) then (if (!(((rd (0, (0, 0)) t4.1 (dlen x7)).1 == x8) && (((rd (0, (0, 0)) t4.1 (dlen x7)).2.1 == x9) && ((rd (0, (0, 0)) t4.1 (dlen x7)).2.2 == x10)))) = true then (some false) else (if t6.2 = true then (if (x0 == (wrap64 ((dlen x11) - 1))) = true then (if 0 ≤ x0 then (if x0 < (dlen x11) then ((g13 t6.1 (rd (0, (0, 0)) x11 x0).1 (rd (0, (0, 0)) x11 x0).2.1 (rd (0, (0, 0)) x11 x0).2.2).bind fun t16 =>
 if t16.2 = true then ((g2 t16.1 x11).bind fun t17 =>
 some t17) else (some false)) else (none)) else (none)) else (some true)) else (some true))) else (none)) else (none)))) else (if t6.2 = true then (if (x0 == (wrap64 ((dlen x11) - 1))) = true then (if 0 ≤ x0 then (if x0 < (dlen x11) then ((g13 t6.1 (rd (0, (0, 0)) x11 x0).1 (rd (0, (0, 0)) x11 x0).2.1 (rd (0, (0, 0)) x11 x0).2.2).bind fun t14 =>
 if t14.2 = true then ((g2 t14.1 x11).bind fun t15 =>
 some t15) else (some false)) else (none)) else (none)) else (some true)) else (some true))))))))))))) else (if (!(t0.2 == false)) = true then (some false) else (if t0.2 = true then ((g10 x6).bind fun t4 =>
 (g10 t0.1).bind fun t5 =>
 (g11 t0.1).bind fun t6 =>
 if (!t4.2) = true then (some false) else (if (!t5.2) = true then (some false) else ((g12 t4.1 t5.1).bind fun t7 =>
 if (!t7) = true then (some false) else (if (!t6.2) = true then (some false) else (if ((dlen t6.1) != 0) = true then (some false) else (if (decide ((dlen t0.1) > (dlen x6))) = true then (some false) else ((g13 x7 x8 x9 x10).bind fun t8 =>
 (g14 x7 x8 x9 x10).bind fun t9 =>
 (g15 x11 x0).bind fun t10 =>
 (g16 x11 x0).bind fun t11 =>
 (g4 x12 x13 x14 x15 x16).bind fun t12 =>
 (g17 x12 x13 x14 x15 x16).bind fun t13 =>
 if (!(t8.2 == t9.2)) = true then (some false) else ((g2 t8.1 t9.1).bind fun t14 =>
 if (!t14) = true then (some false) else (if (!(t10.2 == t11.2)) = true then (some false) else ((g2 t10.1 t11.1).bind fun t15 =>
 if (!t15) = true then (some false) else (if (!(t12.2 == t13.2)) = true then (some false) else (if (!(t12.1 == t13.1)) = true then (some false) else ((g18 x17 x18 x19).bind fun t16 =>
 (g19 x17 x18 x19).bind fun t17 =>
 if (!(t16 == t17)) = true then (some false) else (if t12.2 = true then ((g18 x12 x13 x14).bind fun t18 =>
 if (!t18) = true then (some false) else (if t8.2 = true then ((g15 t8.1 (dlen x7)).bind fun t19 =>
 if (!t19.2) = true then (some false) else ((g2 t19.1 x7).bind fun t20 =>
 if (!t20) = true then (some false) else (if 0 ≤ (dlen x7) then (if (dlen x7) < (dlen t8.1) then (if (!(((rd (0, (0, 0)) t8.1 (dlen x7)).1 == x8) && (((rd (0, (0, 0)) t8.1 (dlen x7)).2.1 == x9) && ((rd (0, (0, 0)) t8.1 (dlen x7)).2.2 == x10)))) = true then (some false) else (if t10.2 = true then (if (x0 == (wrap64 ((dlen x11) - 1))) = true then (if 0 ≤ x0 then (if x0 < (dlen x11) then ((g13 t10.1 (rd (0, (0, 0)) x11 x0).1 (rd (0, (0, 0)) x11 x0).2.1 (rd (0, (0, 0)) x11 x0).2.2).bind fun t21 =>
 if t21.2 = true then ((g2 t21.1 x11).bind fun t22 =>
 some t22) else (some false)) else (none)) else (none)) else (some true)) else (some true))) else (none)) else (none)))) else (if t10.2 = true then (if (x0 == (wrap64 ((dlen x11) - 1))) = true then (if 0 ≤ x0 then (if x0 < (dlen x11) then ((g13 t10.1 (rd (0, (0, 0)) x11 x0).1 (rd (0, (0, 0)) x11 x0).2.1 (rd (0, (0, 0)) x11 x0).2.2).bind fun t19 =>
 if t19.2 = true then ((g2 t19.1 x11).bind fun t20 =>
 some t20) else (some false)) else (none)) else (none)) else (some true)) else (some true)))) else (if t8.2 = true then ((g15 t8.1 (dlen x7)).bind fun t18 =>
 if (!t18.2) = true then (some false) else ((g2 t18.1 x7).bind fun t19 =>
 if (!t19) = true then (some false) else (if 0 ≤ (dlen x7) then (if (dlen x7) < (dlen t8.1) then (if (!(((rd (0, (0, 0)) t8.1 (dlen x7)).1 == x8) && (((rd (0, (0, 0)) t8.1 (dlen x7)).2.1 == x9) && ((rd (0, (0, 0)) t8.1 (dlen x7)).2.2 == x10)))) = true then (some false) else (if t10.2 = true then (if (x0 == (wrap64 ((dlen x11) - 1))) = true then (if 0 ≤ x0 then (if x0 < (dlen x11) then ((g13 t10.1 (rd (0, (0, 0)) x11 x0).1 (rd (0, (0, 0)) x11 x0).2.1 (rd (0, (0, 0)) x11 x0).2.2).bind fun t20 =>
 if t20.2 = true then ((g2 t20.1 x11).bind fun t21 =>
 some t21) else (some false)) else (none)) else (none)) else (some true)) else (some true))) else (none)) else (none)))) else (if t10.2 = true then (if (x0 == (wrap64 ((dlen x11) - 1))) = true then (if 0 ≤ x0 then (if x0 < (dlen x11) then ((g13 t10.1 (rd (0, (0, 0)) x11 x0).1 (rd (0, (0, 0)) x11 x0).2.1 (rd (0, (0, 0)) x11 x0).2.2).bind fun t18 =>
 if t18.2 = true then ((g2 t18.1 x11).bind fun t19 =>
 some t19) else (some false)) else (none)) else (none)) else (some true)) else (some true))))))))))))))))) else ((g13 x7 x8 x9 x10).bind fun t4 =>
 (g14 x7 x8 x9 x10).bind fun t5 =>
 (g15 x11 x0).bind fun t6 =>
 (g16 x11 x0).bind fun t7 =>
 (g4 x12 x13 x14 x15 x16).bind fun t8 =>
 (g17 x12 x13 x14 x15 x16).bind fun t9 =>
 if (!(t4.2 == t5.2)) = true then (some false) else ((g2 t4.1 t5.1).bind fun t10 =>
 if (!t10) = true then (some false) else (if (!(t6.2 == t7.2)) = true then (some false) else ((g2 t6.1 t7.1).bind fun t11 =>
 if (!t11) = true then (some false) else (if (!(t8.2 == t9.2)) = true then (some false) else (if (!(t8.1 == t9.1)) = true then (some false) else ((g18 x17 x18 x19).bind fun t12 =>
 (g19 x17 x18 x19).bind fun t13 =>
 if (!(t12 == t13)) = true then (some false) else (if t8.2 = true then ((g18 x12 x13 x14).bind fun t14 =>
 if (!t14) = true then (some false) else (if t4.2 = true then ((g15 t4.1 (dlen x7)).bind fun t15 =>
 if (!t15.2) = true then (some false) else ((g2 t15.1 x7).bind fun t16 =>
 if (!t16) = true then (some false) else (if 0 ≤ (dlen x7) then (if (dlen x7) < (dlen t4.1) then (if (!(((rd (0, (0, 0)) t4.1 (dlen x7)).1 == x8) && (((rd (0, (0, 0)) t4.1 (dlen x7)).2.1 == x9) && ((rd (0, (0, 0)) t4.1 (dlen x7)).2.2 == x10)))) = true then (some false) else (if t6.2 = true then (if (x0 == (wrap64 ((dlen x11) - 1))) = true then (if 0 ≤ x0 then (if x0 < (dlen x11) then ((g13 t6.1 (rd (0, (0, 0)) x11 x0).1 (rd (0, (0, 0)) x11 x0).2.1 (rd (0, (0, 0)) x11 x0).2.2).bind fun t17 =>
 if t17.2 = true then ((g2 t17.1 x11).bind fun t18 =>
 some t18) else (some false)) else (none)) else (none)) else (some true)) else (some true))) else (none)) else (none)))) else (if t6.2 = true then (if (x0 == (wrap64 ((dlen x11) - 1))) = true then (if 0 ≤ x0 then (if x0 < (dlen x11) then ((g13 t6.1 (rd (0, (0, 0)) x11 x0).1 (rd (0, (0, 0)) x11 x0).2.1 (rd (0, (0, 0)) x11 x0).2.2).bind fun t15 =>
 if t15.2 = true then ((g2 t15.1 x11).bind fun t16 =>
 some t16) else (some false)) else (none)) else (none)) else (some true)) else (some true)))) else (if t4.2 = true then ((g15 t4.1 (dlen x7)).bind fun t14 =>
 if (!t14.2) = true then (some false) else ((g2 t14.1 x7).bind fun t15 =>
 if (!t15) = true then (some false) else (if 0 ≤ (dlen x7) then (if (dlen x7) < (dlen t4.1) then (if (!(((rd (0, (0, 0)) t4.1 (dlen x7)).1 == x8) && (((rd (0, (0, 0)) t4.1 (dlen x7)).2.1 == x9) && ((rd (0, (0, 0)) t4.1 (dlen x7)).2.2 == x10)))) = true then (some false) else (if t6.2 = true then (if (x0 == (wrap64 ((dlen x11) - 1))) = true then (if 0 ≤ x0 then (if x0 < (dlen x11) then ((g13 t6.1 (rd (0, (0, 0)) x11 x0).1 (rd (0, (0, 0)) x11 x0).2.1 (rd (0, (0, 0)) x11 x0).2.2).bind fun t16 =>
 if t16.2 = true then ((g2 t16.1 x11).bind fun t17 =>
 some t17) else (some false)) else (none)) else (none)) else (some true)) else (some true))) else (none)) else (none)))) else (if t6.2 = true then (if (x0 == (wrap64 ((dlen x11) - 1))) = true then (if 0 ≤ x0 then (if x0 < (dlen x11) then ((g13 t6.1 (rd (0, (0, 0)) x11 x0).1 (rd (0, (0, 0)) x11 x0).2.1 (rd (0, (0, 0)) x11 x0).2.2).bind fun t14 =>
 if t14.2 = true then ((g2 t14.1 x11).bind fun t15 =>
 some t15) else (some false)) else (none)) else (none)) else (some true)) else (some true))))))))))))))))
noncomputable def l0 : Nat → Int → List (Int × (Int × Int)) → Int → Int → Int → Int → List (Int × (Int × Int)) → List (Int × (Int × Int)) → Int → Int → Int → List (Int × (Int × Int)) → Int → Int → Int → Int → Int → Int → Int → Int → Option Bool
 | 0, _, _, _, _, _, _, _, _, _, _, _, _, _, _, _, _, _, _, _, _ => none
 | k + 1, x0, x1, x2, x3, x4, x5, x6, x7, x8, x9, x10, x11, x12, x13, x14, x15, x16, x17, x18, x19 => b0 (l0 k) impl_DoesFit.f (impl_HarderPuzzle.f k) (spec_HarderPuzzle.f k) (impl_IsSolved.f k) (laws_qClues.f k) (impl_Solutions.f k) (impl_NeedlessClues.f k) (laws_qSnails.f k) (impl_AddClue.f k) (spec_AddClue.f k) (impl_DropClue.f k) (spec_DropClue.f k) spec_DoesFit.f impl_IsClue.f spec_IsClue.f x0 x1 x2 x3 x4 x5 x6 x7 x8 x9 x10 x11 x12 x13 x14 x15 x16 x17 x18 x19
noncomputable def f (k : Nat) (a0 a1 a2 a3 : Int) (a4 a5 : List (Int × (Int × Int))) (a6 a7 a8 : Int) (a9 : List (Int × (Int × Int))) (a10 a11 a12 a13 a14 a15 a16 a17 a18 : Int) : Option Bool := b (l0 k) (impl_MakePuzzle.f k) (spec_MakePuzzle.f k) (laws_qClues.f k) impl_DaysToTop.f impl_DoesFit.f impl_EveningHeight.f (impl_IsPuzzle.f k) (impl_HarderPuzzle.f k) (spec_HarderPuzzle.f k) (impl_IsSolved.f k) (impl_Solutions.f k) (impl_NeedlessClues.f k) (laws_qSnails.f k) (impl_AddClue.f k) (spec_AddClue.f k) (impl_DropClue.f k) (spec_DropClue.f k) spec_DoesFit.f impl_IsClue.f spec_IsClue.f a0 a1 a2 a3 a4 a5 a6 a7 a8 a9 a10 a11 a12 a13 a14 a15 a16 a17 a18
theorem e (K : Nat) (a0 a1 a2 a3 : Int) (a4 a5 : List (Int × (Int × Int))) (a6 a7 a8 : Int) (a9 : List (Int × (Int × Int))) (a10 a11 a12 a13 a14 a15 a16 a17 a18 : Int) : p (K + 1) a0 a1 a2 a3 a4 a5 a6 a7 a8 a9 a10 a11 a12 a13 a14 a15 a16 a17 a18 = b (q0 K K) (impl_MakePuzzle.p K) (spec_MakePuzzle.p K) (laws_qClues.p K) (impl_DaysToTop.p K) (impl_DoesFit.p K) (impl_EveningHeight.p K) (impl_IsPuzzle.p K) (impl_HarderPuzzle.p K) (spec_HarderPuzzle.p K) (impl_IsSolved.p K) (impl_Solutions.p K) (impl_NeedlessClues.p K) (laws_qSnails.p K) (impl_AddClue.p K) (spec_AddClue.p K) (impl_DropClue.p K) (spec_DropClue.p K) (spec_DoesFit.p K) (impl_IsClue.p K) (spec_IsClue.p K) a0 a1 a2 a3 a4 a5 a6 a7 a8 a9 a10 a11 a12 a13 a14 a15 a16 a17 a18 := by kernel_rfl
theorem e0 (K m : Nat) (x0 : Int) (x1 : List (Int × (Int × Int))) (x2 x3 x4 x5 : Int) (x6 x7 : List (Int × (Int × Int))) (x8 x9 x10 : Int) (x11 : List (Int × (Int × Int))) (x12 x13 x14 x15 x16 x17 x18 x19 : Int) : q0 K (m + 1) x0 x1 x2 x3 x4 x5 x6 x7 x8 x9 x10 x11 x12 x13 x14 x15 x16 x17 x18 x19 = b0 (q0 K m) (impl_DoesFit.p K) (impl_HarderPuzzle.p K) (spec_HarderPuzzle.p K) (impl_IsSolved.p K) (laws_qClues.p K) (impl_Solutions.p K) (impl_NeedlessClues.p K) (laws_qSnails.p K) (impl_AddClue.p K) (spec_AddClue.p K) (impl_DropClue.p K) (spec_DropClue.p K) (spec_DoesFit.p K) (impl_IsClue.p K) (spec_IsClue.p K) x0 x1 x2 x3 x4 x5 x6 x7 x8 x9 x10 x11 x12 x13 x14 x15 x16 x17 x18 x19 := by kernel_rfl
theorem kl (n : Nat) : ∀ K, n + 9 ≤ K → (∀ m, n ≤ m → ∀ (x0 : Int) (x1 : List (Int × (Int × Int))) (x2 x3 x4 x5 : Int) (x6 x7 : List (Int × (Int × Int))) (x8 x9 x10 : Int) (x11 : List (Int × (Int × Int))) (x12 x13 x14 x15 x16 x17 x18 x19 : Int), Le (l0 n x0 x1 x2 x3 x4 x5 x6 x7 x8 x9 x10 x11 x12 x13 x14 x15 x16 x17 x18 x19) (q0 K m x0 x1 x2 x3 x4 x5 x6 x7 x8 x9 x10 x11 x12 x13 x14 x15 x16 x17 x18 x19)) := by
 induction n with
 | zero => exact fun K _ => fun _ _ _ _ _ _ _ _ _ _ _ _ _ _ _ _ _ _ _ _ _ _ => Le.none
 | succ n ih =>
  intro K hK
  have ih := ih K (by omega)
  intro m hm x0 x1 x2 x3 x4 x5 x6 x7 x8 x9 x10 x11 x12 x13 x14 x15 x16 x17 x18 x19
  obtain ⟨m, rfl⟩ := pos_of_le hm
  rw [e0]
  show Le (b0 (l0 n) impl_DoesFit.f (impl_HarderPuzzle.f n) (spec_HarderPuzzle.f n) (impl_IsSolved.f n) (laws_qClues.f n) (impl_Solutions.f n) (impl_NeedlessClues.f n) (laws_qSnails.f n) (impl_AddClue.f n) (spec_AddClue.f n) (impl_DropClue.f n) (spec_DropClue.f n) spec_DoesFit.f impl_IsClue.f spec_IsClue.f x0 x1 x2 x3 x4 x5 x6 x7 x8 x9 x10 x11 x12 x13 x14 x15 x16 x17 x18 x19) _
  unfold b0
  repeat' first | with_reducible apply Le.bind | with_reducible apply Le.ite | with_reducible exact Le.rfl | with_reducible refine ih _ ?_ _ _ _ _ _ _ _ _ _ _ _ _ _ _ _ _ _ _ _ _ | with_reducible refine impl_DoesFit.k ?_ _ _ _ _ _ | with_reducible refine impl_HarderPuzzle.k ?_ _ | with_reducible refine spec_HarderPuzzle.k ?_ _ | with_reducible refine impl_IsSolved.k ?_ _ | with_reducible refine laws_qClues.k ?_ _ _ | with_reducible refine impl_Solutions.k ?_ _ | with_reducible refine impl_NeedlessClues.k ?_ _ | with_reducible refine laws_qSnails.k ?_ _ _ | with_reducible refine impl_AddClue.k ?_ _ _ _ _ | with_reducible refine spec_AddClue.k ?_ _ _ _ _ | with_reducible refine impl_DropClue.k ?_ _ _ | with_reducible refine spec_DropClue.k ?_ _ _ | with_reducible refine spec_DoesFit.k ?_ _ _ _ _ _ | with_reducible refine impl_IsClue.k ?_ _ _ _ | with_reducible refine spec_IsClue.k ?_ _ _ _ | with_reducible intro _ | omega
theorem k {n K : Nat} (h : n + 10 ≤ K) (a0 a1 a2 a3 : Int) (a4 a5 : List (Int × (Int × Int))) (a6 a7 a8 : Int) (a9 : List (Int × (Int × Int))) (a10 a11 a12 a13 a14 a15 a16 a17 a18 : Int) : Le (f n a0 a1 a2 a3 a4 a5 a6 a7 a8 a9 a10 a11 a12 a13 a14 a15 a16 a17 a18) (p K a0 a1 a2 a3 a4 a5 a6 a7 a8 a9 a10 a11 a12 a13 a14 a15 a16 a17 a18) := by
 obtain ⟨K, rfl⟩ := pos_of_le (show 0 + 1 ≤ K by omega)
 have kl := kl n K (by omega)
 rw [e]
 unfold f b
 repeat' first | with_reducible apply Le.bind | with_reducible apply Le.ite | with_reducible exact Le.rfl | with_reducible refine kl _ ?_ _ _ _ _ _ _ _ _ _ _ _ _ _ _ _ _ _ _ _ _ | with_reducible refine impl_MakePuzzle.k ?_ _ _ _ _ | with_reducible refine spec_MakePuzzle.k ?_ _ _ _ _ | with_reducible refine laws_qClues.k ?_ _ _ | with_reducible refine impl_DaysToTop.k ?_ _ _ _ | with_reducible refine impl_DoesFit.k ?_ _ _ _ _ _ | with_reducible refine impl_EveningHeight.k ?_ _ _ _ _ | with_reducible refine impl_IsPuzzle.k ?_ _ | with_reducible refine impl_HarderPuzzle.k ?_ _ | with_reducible refine spec_HarderPuzzle.k ?_ _ | with_reducible refine impl_IsSolved.k ?_ _ | with_reducible refine impl_Solutions.k ?_ _ | with_reducible refine impl_NeedlessClues.k ?_ _ | with_reducible refine laws_qSnails.k ?_ _ _ | with_reducible refine impl_AddClue.k ?_ _ _ _ _ | with_reducible refine spec_AddClue.k ?_ _ _ _ _ | with_reducible refine impl_DropClue.k ?_ _ _ | with_reducible refine spec_DropClue.k ?_ _ _ | with_reducible refine spec_DoesFit.k ?_ _ _ _ _ _ | with_reducible refine impl_IsClue.k ?_ _ _ _ | with_reducible refine spec_IsClue.k ?_ _ _ _ | with_reducible intro _ | omega
end laws_FnSnailsHiddenOfAll
end Go.Proofs.Ytnpfeemkichniaa.Ha
