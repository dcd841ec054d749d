/- What functions of the program compute. -/
import Derived.Test.YtdhkgmhdengnkaaGreatDoorRsF1
namespace Go.Proofs.YtdhkgmhdengnkaaGreatDoor.Rs
open Go Go.Proofs.YtdhkgmhdengnkaaGreatDoorPi Go.RowKit
set_option maxRecDepth 100000
set_option linter.unusedVariables false
set_option linter.unusedSectionVars false
noncomputable section
variable [Inhabited Sv]
namespace qapz
def f (k:Fu) (a0:List (Int×Int)) (a1 a2 a3:Int):Option (List (Int×Int)):=PI Cx (k 0) 298 [.sv (.one (.frow 155 (.pair i6 i6) a0)),vi a1,vi a2,vi a3,.sv (.one (.fn 284 []))]
def l0 (k:Fu) (x0 x1 x2:Int) (x3 x4:Bool) (x5:List (Int×Int)):Option (List (Int×Int)):=zan Cx (k 0) 298 [tt,tt,tt] [k 1] ⟨[(0,vf 9000000000000001),(1,vi x0),(2,vi x1),(3,vi x2),(4,.sv (.one (.fn 284 []))),(10,vb x3),(11,vb x4)],[(9000000000000001,.row 155 (.pair i6 i6) x5 .lent)],[]⟩
theorem v {a0:List (Int×Int)} {a1 a2 a3:Int} {r} (h:Ev (fun k=>l0 k a1 a2 a3 true true a0) r):Ev (fun k=>f k a0 a1 a2 a3) r:=evf (fun _ _ _=>zaf Cx (by kernel_rfl)) h
theorem v0 {x0 x1 x2:Int} {x3 x4:Bool} {x5:List (Int×Int)} {r} (h:Ev (fun k=>if (iLe (W (x1-x0)) 12) then (qaez.f k x5 x0 x1).bind fun t0 =>
 some t0 else if (x2 == 0) then (qaoz.f k x5 x0 x1).bind fun t0 =>
 some t0 else if (!x3) then (qadz.f k x5 x0 x1).bind fun t0 =>
 (qajz.f k t0 x0 x1).bind fun t1 =>
 if (t1.2.1 == 2) then (qaiz.f k t1.2.2 x0 x1).bind fun t2 =>
 if x3 then if x4 then (qaaz.f k t2 x0 x1).bind fun t3 =>
 if t3.1 then some t3.2 else if (iGt x0 0) then ix (W (x0-1)) t3.2 <| ix (W ((W (x1-1))-(W (t1.1-x0)))) t3.2 <| (qbrz.f (rd (0,0) t3.2 (W (x0-1))).1 (rd (0,0) t3.2 (W (x0-1))).2 (rd (0,0) t3.2 (W ((W (x1-1))-(W (t1.1-x0))))).1 (rd (0,0) t3.2 (W ((W (x1-1))-(W (t1.1-x0))))).2).bind fun t4 =>
 if (!(iLt t4 0)) then (qacz.f k t3.2 x0 x1 (W ((W (x1-1))-(W (t1.1-x0))))).bind fun t5 =>
 l0 k t5.1 x1 (W (x2-1)) x3 x4 t5.2 else (qamz.f k t3.2 x0 x1 (W ((W (x1-1))-(W (t1.1-x0))))).bind fun t5 =>
 if (iLt (W (t5.1-x0)) (W (x1-t5.1))) then (f k t5.2.2 x0 t5.1 (W (x2-1))).bind fun t6 =>
 l0 k (W (t5.1+1)) x1 (W (x2-1)) (iGe (W (t5.1-x0)) (W (Int.tdiv (W (x1-x0)) 8))) t5.2.1 t6 else (f k t5.2.2 (W (t5.1+1)) x1 (W (x2-1))).bind fun t6 =>
 l0 k x0 t5.1 (W (x2-1)) (iGe (W (x1-t5.1)) (W (Int.tdiv (W (x1-x0)) 8))) t5.2.1 t6 else (qamz.f k t3.2 x0 x1 (W ((W (x1-1))-(W (t1.1-x0))))).bind fun t4 =>
 if (iLt (W (t4.1-x0)) (W (x1-t4.1))) then (f k t4.2.2 x0 t4.1 (W (x2-1))).bind fun t5 =>
 l0 k (W (t4.1+1)) x1 (W (x2-1)) (iGe (W (t4.1-x0)) (W (Int.tdiv (W (x1-x0)) 8))) t4.2.1 t5 else (f k t4.2.2 (W (t4.1+1)) x1 (W (x2-1))).bind fun t5 =>
 l0 k x0 t4.1 (W (x2-1)) (iGe (W (x1-t4.1)) (W (Int.tdiv (W (x1-x0)) 8))) t4.2.1 t5 else if (iGt x0 0) then ix (W (x0-1)) t2 <| ix (W ((W (x1-1))-(W (t1.1-x0)))) t2 <| (qbrz.f (rd (0,0) t2 (W (x0-1))).1 (rd (0,0) t2 (W (x0-1))).2 (rd (0,0) t2 (W ((W (x1-1))-(W (t1.1-x0))))).1 (rd (0,0) t2 (W ((W (x1-1))-(W (t1.1-x0))))).2).bind fun t3 =>
 if (!(iLt t3 0)) then (qacz.f k t2 x0 x1 (W ((W (x1-1))-(W (t1.1-x0))))).bind fun t4 =>
 l0 k t4.1 x1 (W (x2-1)) x3 x4 t4.2 else (qamz.f k t2 x0 x1 (W ((W (x1-1))-(W (t1.1-x0))))).bind fun t4 =>
 if (iLt (W (t4.1-x0)) (W (x1-t4.1))) then (f k t4.2.2 x0 t4.1 (W (x2-1))).bind fun t5 =>
 l0 k (W (t4.1+1)) x1 (W (x2-1)) (iGe (W (t4.1-x0)) (W (Int.tdiv (W (x1-x0)) 8))) t4.2.1 t5 else (f k t4.2.2 (W (t4.1+1)) x1 (W (x2-1))).bind fun t5 =>
 l0 k x0 t4.1 (W (x2-1)) (iGe (W (x1-t4.1)) (W (Int.tdiv (W (x1-x0)) 8))) t4.2.1 t5 else (qamz.f k t2 x0 x1 (W ((W (x1-1))-(W (t1.1-x0))))).bind fun t3 =>
 if (iLt (W (t3.1-x0)) (W (x1-t3.1))) then (f k t3.2.2 x0 t3.1 (W (x2-1))).bind fun t4 =>
 l0 k (W (t3.1+1)) x1 (W (x2-1)) (iGe (W (t3.1-x0)) (W (Int.tdiv (W (x1-x0)) 8))) t3.2.1 t4 else (f k t3.2.2 (W (t3.1+1)) x1 (W (x2-1))).bind fun t4 =>
 l0 k x0 t3.1 (W (x2-1)) (iGe (W (x1-t3.1)) (W (Int.tdiv (W (x1-x0)) 8))) t3.2.1 t4 else if (iGt x0 0) then ix (W (x0-1)) t2 <| ix (W ((W (x1-1))-(W (t1.1-x0)))) t2 <| (qbrz.f (rd (0,0) t2 (W (x0-1))).1 (rd (0,0) t2 (W (x0-1))).2 (rd (0,0) t2 (W ((W (x1-1))-(W (t1.1-x0))))).1 (rd (0,0) t2 (W ((W (x1-1))-(W (t1.1-x0))))).2).bind fun t3 =>
 if (!(iLt t3 0)) then (qacz.f k t2 x0 x1 (W ((W (x1-1))-(W (t1.1-x0))))).bind fun t4 =>
 l0 k t4.1 x1 (W (x2-1)) x3 x4 t4.2 else (qamz.f k t2 x0 x1 (W ((W (x1-1))-(W (t1.1-x0))))).bind fun t4 =>
 if (iLt (W (t4.1-x0)) (W (x1-t4.1))) then (f k t4.2.2 x0 t4.1 (W (x2-1))).bind fun t5 =>
 l0 k (W (t4.1+1)) x1 (W (x2-1)) (iGe (W (t4.1-x0)) (W (Int.tdiv (W (x1-x0)) 8))) t4.2.1 t5 else (f k t4.2.2 (W (t4.1+1)) x1 (W (x2-1))).bind fun t5 =>
 l0 k x0 t4.1 (W (x2-1)) (iGe (W (x1-t4.1)) (W (Int.tdiv (W (x1-x0)) 8))) t4.2.1 t5 else (qamz.f k t2 x0 x1 (W ((W (x1-1))-(W (t1.1-x0))))).bind fun t3 =>
 if (iLt (W (t3.1-x0)) (W (x1-t3.1))) then (f k t3.2.2 x0 t3.1 (W (x2-1))).bind fun t4 =>
 l0 k (W (t3.1+1)) x1 (W (x2-1)) (iGe (W (t3.1-x0)) (W (Int.tdiv (W (x1-x0)) 8))) t3.2.1 t4 else (f k t3.2.2 (W (t3.1+1)) x1 (W (x2-1))).bind fun t4 =>
 l0 k x0 t3.1 (W (x2-1)) (iGe (W (x1-t3.1)) (W (Int.tdiv (W (x1-x0)) 8))) t3.2.1 t4 else if x3 then if x4 then if (t1.2.1 == 1) then (qaaz.f k t1.2.2 x0 x1).bind fun t2 =>
 if t2.1 then some t2.2 else if (iGt x0 0) then ix (W (x0-1)) t2.2 <| ix t1.1 t2.2 <| (qbrz.f (rd (0,0) t2.2 (W (x0-1))).1 (rd (0,0) t2.2 (W (x0-1))).2 (rd (0,0) t2.2 t1.1).1 (rd (0,0) t2.2 t1.1).2).bind fun t3 =>
 if (!(iLt t3 0)) then (qacz.f k t2.2 x0 x1 t1.1).bind fun t4 =>
 l0 k t4.1 x1 (W (x2-1)) x3 x4 t4.2 else (qamz.f k t2.2 x0 x1 t1.1).bind fun t4 =>
 if (iLt (W (t4.1-x0)) (W (x1-t4.1))) then (f k t4.2.2 x0 t4.1 (W (x2-1))).bind fun t5 =>
 l0 k (W (t4.1+1)) x1 (W (x2-1)) (iGe (W (t4.1-x0)) (W (Int.tdiv (W (x1-x0)) 8))) t4.2.1 t5 else (f k t4.2.2 (W (t4.1+1)) x1 (W (x2-1))).bind fun t5 =>
 l0 k x0 t4.1 (W (x2-1)) (iGe (W (x1-t4.1)) (W (Int.tdiv (W (x1-x0)) 8))) t4.2.1 t5 else (qamz.f k t2.2 x0 x1 t1.1).bind fun t3 =>
 if (iLt (W (t3.1-x0)) (W (x1-t3.1))) then (f k t3.2.2 x0 t3.1 (W (x2-1))).bind fun t4 =>
 l0 k (W (t3.1+1)) x1 (W (x2-1)) (iGe (W (t3.1-x0)) (W (Int.tdiv (W (x1-x0)) 8))) t3.2.1 t4 else (f k t3.2.2 (W (t3.1+1)) x1 (W (x2-1))).bind fun t4 =>
 l0 k x0 t3.1 (W (x2-1)) (iGe (W (x1-t3.1)) (W (Int.tdiv (W (x1-x0)) 8))) t3.2.1 t4 else if (iGt x0 0) then ix (W (x0-1)) t1.2.2 <| ix t1.1 t1.2.2 <| (qbrz.f (rd (0,0) t1.2.2 (W (x0-1))).1 (rd (0,0) t1.2.2 (W (x0-1))).2 (rd (0,0) t1.2.2 t1.1).1 (rd (0,0) t1.2.2 t1.1).2).bind fun t2 =>
 if (!(iLt t2 0)) then (qacz.f k t1.2.2 x0 x1 t1.1).bind fun t3 =>
 l0 k t3.1 x1 (W (x2-1)) x3 x4 t3.2 else (qamz.f k t1.2.2 x0 x1 t1.1).bind fun t3 =>
 if (iLt (W (t3.1-x0)) (W (x1-t3.1))) then (f k t3.2.2 x0 t3.1 (W (x2-1))).bind fun t4 =>
 l0 k (W (t3.1+1)) x1 (W (x2-1)) (iGe (W (t3.1-x0)) (W (Int.tdiv (W (x1-x0)) 8))) t3.2.1 t4 else (f k t3.2.2 (W (t3.1+1)) x1 (W (x2-1))).bind fun t4 =>
 l0 k x0 t3.1 (W (x2-1)) (iGe (W (x1-t3.1)) (W (Int.tdiv (W (x1-x0)) 8))) t3.2.1 t4 else (qamz.f k t1.2.2 x0 x1 t1.1).bind fun t2 =>
 if (iLt (W (t2.1-x0)) (W (x1-t2.1))) then (f k t2.2.2 x0 t2.1 (W (x2-1))).bind fun t3 =>
 l0 k (W (t2.1+1)) x1 (W (x2-1)) (iGe (W (t2.1-x0)) (W (Int.tdiv (W (x1-x0)) 8))) t2.2.1 t3 else (f k t2.2.2 (W (t2.1+1)) x1 (W (x2-1))).bind fun t3 =>
 l0 k x0 t2.1 (W (x2-1)) (iGe (W (x1-t2.1)) (W (Int.tdiv (W (x1-x0)) 8))) t2.2.1 t3 else if (iGt x0 0) then ix (W (x0-1)) t1.2.2 <| ix t1.1 t1.2.2 <| (qbrz.f (rd (0,0) t1.2.2 (W (x0-1))).1 (rd (0,0) t1.2.2 (W (x0-1))).2 (rd (0,0) t1.2.2 t1.1).1 (rd (0,0) t1.2.2 t1.1).2).bind fun t2 =>
 if (!(iLt t2 0)) then (qacz.f k t1.2.2 x0 x1 t1.1).bind fun t3 =>
 l0 k t3.1 x1 (W (x2-1)) x3 x4 t3.2 else (qamz.f k t1.2.2 x0 x1 t1.1).bind fun t3 =>
 if (iLt (W (t3.1-x0)) (W (x1-t3.1))) then (f k t3.2.2 x0 t3.1 (W (x2-1))).bind fun t4 =>
 l0 k (W (t3.1+1)) x1 (W (x2-1)) (iGe (W (t3.1-x0)) (W (Int.tdiv (W (x1-x0)) 8))) t3.2.1 t4 else (f k t3.2.2 (W (t3.1+1)) x1 (W (x2-1))).bind fun t4 =>
 l0 k x0 t3.1 (W (x2-1)) (iGe (W (x1-t3.1)) (W (Int.tdiv (W (x1-x0)) 8))) t3.2.1 t4 else (qamz.f k t1.2.2 x0 x1 t1.1).bind fun t2 =>
 if (iLt (W (t2.1-x0)) (W (x1-t2.1))) then (f k t2.2.2 x0 t2.1 (W (x2-1))).bind fun t3 =>
 l0 k (W (t2.1+1)) x1 (W (x2-1)) (iGe (W (t2.1-x0)) (W (Int.tdiv (W (x1-x0)) 8))) t2.2.1 t3 else (f k t2.2.2 (W (t2.1+1)) x1 (W (x2-1))).bind fun t3 =>
 l0 k x0 t2.1 (W (x2-1)) (iGe (W (x1-t2.1)) (W (Int.tdiv (W (x1-x0)) 8))) t2.2.1 t3 else if (iGt x0 0) then ix (W (x0-1)) t1.2.2 <| ix t1.1 t1.2.2 <| (qbrz.f (rd (0,0) t1.2.2 (W (x0-1))).1 (rd (0,0) t1.2.2 (W (x0-1))).2 (rd (0,0) t1.2.2 t1.1).1 (rd (0,0) t1.2.2 t1.1).2).bind fun t2 =>
 if (!(iLt t2 0)) then (qacz.f k t1.2.2 x0 x1 t1.1).bind fun t3 =>
 l0 k t3.1 x1 (W (x2-1)) x3 x4 t3.2 else (qamz.f k t1.2.2 x0 x1 t1.1).bind fun t3 =>
 if (iLt (W (t3.1-x0)) (W (x1-t3.1))) then (f k t3.2.2 x0 t3.1 (W (x2-1))).bind fun t4 =>
 l0 k (W (t3.1+1)) x1 (W (x2-1)) (iGe (W (t3.1-x0)) (W (Int.tdiv (W (x1-x0)) 8))) t3.2.1 t4 else (f k t3.2.2 (W (t3.1+1)) x1 (W (x2-1))).bind fun t4 =>
 l0 k x0 t3.1 (W (x2-1)) (iGe (W (x1-t3.1)) (W (Int.tdiv (W (x1-x0)) 8))) t3.2.1 t4 else (qamz.f k t1.2.2 x0 x1 t1.1).bind fun t2 =>
 if (iLt (W (t2.1-x0)) (W (x1-t2.1))) then (f k t2.2.2 x0 t2.1 (W (x2-1))).bind fun t3 =>
 l0 k (W (t2.1+1)) x1 (W (x2-1)) (iGe (W (t2.1-x0)) (W (Int.tdiv (W (x1-x0)) 8))) t2.2.1 t3 else (f k t2.2.2 (W (t2.1+1)) x1 (W (x2-1))).bind fun t3 =>
 l0 k x0 t2.1 (W (x2-1)) (iGe (W (x1-t2.1)) (W (Int.tdiv (W (x1-x0)) 8))) t2.2.1 t3 else (qajz.f k x5 x0 x1).bind fun t0 =>
 if (t0.2.1 == 2) then (qaiz.f k t0.2.2 x0 x1).bind fun t1 =>
 if x3 then if x4 then (qaaz.f k t1 x0 x1).bind fun t2 =>
 if t2.1 then some t2.2 else if (iGt x0 0) then ix (W (x0-1)) t2.2 <| ix (W ((W (x1-1))-(W (t0.1-x0)))) t2.2 <| (qbrz.f (rd (0,0) t2.2 (W (x0-1))).1 (rd (0,0) t2.2 (W (x0-1))).2 (rd (0,0) t2.2 (W ((W (x1-1))-(W (t0.1-x0))))).1 (rd (0,0) t2.2 (W ((W (x1-1))-(W (t0.1-x0))))).2).bind fun t3 =>
 if (!(iLt t3 0)) then (qacz.f k t2.2 x0 x1 (W ((W (x1-1))-(W (t0.1-x0))))).bind fun t4 =>
 l0 k t4.1 x1 x2 x3 x4 t4.2 else (qamz.f k t2.2 x0 x1 (W ((W (x1-1))-(W (t0.1-x0))))).bind fun t4 =>
 if (iLt (W (t4.1-x0)) (W (x1-t4.1))) then (f k t4.2.2 x0 t4.1 x2).bind fun t5 =>
 l0 k (W (t4.1+1)) x1 x2 (iGe (W (t4.1-x0)) (W (Int.tdiv (W (x1-x0)) 8))) t4.2.1 t5 else (f k t4.2.2 (W (t4.1+1)) x1 x2).bind fun t5 =>
 l0 k x0 t4.1 x2 (iGe (W (x1-t4.1)) (W (Int.tdiv (W (x1-x0)) 8))) t4.2.1 t5 else (qamz.f k t2.2 x0 x1 (W ((W (x1-1))-(W (t0.1-x0))))).bind fun t3 =>
 if (iLt (W (t3.1-x0)) (W (x1-t3.1))) then (f k t3.2.2 x0 t3.1 x2).bind fun t4 =>
 l0 k (W (t3.1+1)) x1 x2 (iGe (W (t3.1-x0)) (W (Int.tdiv (W (x1-x0)) 8))) t3.2.1 t4 else (f k t3.2.2 (W (t3.1+1)) x1 x2).bind fun t4 =>
 l0 k x0 t3.1 x2 (iGe (W (x1-t3.1)) (W (Int.tdiv (W (x1-x0)) 8))) t3.2.1 t4 else if (iGt x0 0) then ix (W (x0-1)) t1 <| ix (W ((W (x1-1))-(W (t0.1-x0)))) t1 <| (qbrz.f (rd (0,0) t1 (W (x0-1))).1 (rd (0,0) t1 (W (x0-1))).2 (rd (0,0) t1 (W ((W (x1-1))-(W (t0.1-x0))))).1 (rd (0,0) t1 (W ((W (x1-1))-(W (t0.1-x0))))).2).bind fun t2 =>
 if (!(iLt t2 0)) then (qacz.f k t1 x0 x1 (W ((W (x1-1))-(W (t0.1-x0))))).bind fun t3 =>
 l0 k t3.1 x1 x2 x3 x4 t3.2 else (qamz.f k t1 x0 x1 (W ((W (x1-1))-(W (t0.1-x0))))).bind fun t3 =>
 if (iLt (W (t3.1-x0)) (W (x1-t3.1))) then (f k t3.2.2 x0 t3.1 x2).bind fun t4 =>
 l0 k (W (t3.1+1)) x1 x2 (iGe (W (t3.1-x0)) (W (Int.tdiv (W (x1-x0)) 8))) t3.2.1 t4 else (f k t3.2.2 (W (t3.1+1)) x1 x2).bind fun t4 =>
 l0 k x0 t3.1 x2 (iGe (W (x1-t3.1)) (W (Int.tdiv (W (x1-x0)) 8))) t3.2.1 t4 else (qamz.f k t1 x0 x1 (W ((W (x1-1))-(W (t0.1-x0))))).bind fun t2 =>
 if (iLt (W (t2.1-x0)) (W (x1-t2.1))) then (f k t2.2.2 x0 t2.1 x2).bind fun t3 =>
 l0 k (W (t2.1+1)) x1 x2 (iGe (W (t2.1-x0)) (W (Int.tdiv (W (x1-x0)) 8))) t2.2.1 t3 else (f k t2.2.2 (W (t2.1+1)) x1 x2).bind fun t3 =>
 l0 k x0 t2.1 x2 (iGe (W (x1-t2.1)) (W (Int.tdiv (W (x1-x0)) 8))) t2.2.1 t3 else if (iGt x0 0) then ix (W (x0-1)) t1 <| ix (W ((W (x1-1))-(W (t0.1-x0)))) t1 <| (qbrz.f (rd (0,0) t1 (W (x0-1))).1 (rd (0,0) t1 (W (x0-1))).2 (rd (0,0) t1 (W ((W (x1-1))-(W (t0.1-x0))))).1 (rd (0,0) t1 (W ((W (x1-1))-(W (t0.1-x0))))).2).bind fun t2 =>
 if (!(iLt t2 0)) then (qacz.f k t1 x0 x1 (W ((W (x1-1))-(W (t0.1-x0))))).bind fun t3 =>
 l0 k t3.1 x1 x2 x3 x4 t3.2 else (qamz.f k t1 x0 x1 (W ((W (x1-1))-(W (t0.1-x0))))).bind fun t3 =>
 if (iLt (W (t3.1-x0)) (W (x1-t3.1))) then (f k t3.2.2 x0 t3.1 x2).bind fun t4 =>
 l0 k (W (t3.1+1)) x1 x2 (iGe (W (t3.1-x0)) (W (Int.tdiv (W (x1-x0)) 8))) t3.2.1 t4 else (f k t3.2.2 (W (t3.1+1)) x1 x2).bind fun t4 =>
 l0 k x0 t3.1 x2 (iGe (W (x1-t3.1)) (W (Int.tdiv (W (x1-x0)) 8))) t3.2.1 t4 else (qamz.f k t1 x0 x1 (W ((W (x1-1))-(W (t0.1-x0))))).bind fun t2 =>
 if (iLt (W (t2.1-x0)) (W (x1-t2.1))) then (f k t2.2.2 x0 t2.1 x2).bind fun t3 =>
 l0 k (W (t2.1+1)) x1 x2 (iGe (W (t2.1-x0)) (W (Int.tdiv (W (x1-x0)) 8))) t2.2.1 t3 else (f k t2.2.2 (W (t2.1+1)) x1 x2).bind fun t3 =>
 l0 k x0 t2.1 x2 (iGe (W (x1-t2.1)) (W (Int.tdiv (W (x1-x0)) 8))) t2.2.1 t3 else if x3 then if x4 then if (t0.2.1 == 1) then (qaaz.f k t0.2.2 x0 x1).bind fun t1 =>
 if t1.1 then some t1.2 else if (iGt x0 0) then ix (W (x0-1)) t1.2 <| ix t0.1 t1.2 <| (qbrz.f (rd (0,0) t1.2 (W (x0-1))).1 (rd (0,0) t1.2 (W (x0-1))).2 (rd (0,0) t1.2 t0.1).1 (rd (0,0) t1.2 t0.1).2).bind fun t2 =>
 if (!(iLt t2 0)) then (qacz.f k t1.2 x0 x1 t0.1).bind fun t3 =>
 l0 k t3.1 x1 x2 x3 x4 t3.2 else (qamz.f k t1.2 x0 x1 t0.1).bind fun t3 =>
 if (iLt (W (t3.1-x0)) (W (x1-t3.1))) then (f k t3.2.2 x0 t3.1 x2).bind fun t4 =>
 l0 k (W (t3.1+1)) x1 x2 (iGe (W (t3.1-x0)) (W (Int.tdiv (W (x1-x0)) 8))) t3.2.1 t4 else (f k t3.2.2 (W (t3.1+1)) x1 x2).bind fun t4 =>
 l0 k x0 t3.1 x2 (iGe (W (x1-t3.1)) (W (Int.tdiv (W (x1-x0)) 8))) t3.2.1 t4 else (qamz.f k t1.2 x0 x1 t0.1).bind fun t2 =>
 if (iLt (W (t2.1-x0)) (W (x1-t2.1))) then (f k t2.2.2 x0 t2.1 x2).bind fun t3 =>
 l0 k (W (t2.1+1)) x1 x2 (iGe (W (t2.1-x0)) (W (Int.tdiv (W (x1-x0)) 8))) t2.2.1 t3 else (f k t2.2.2 (W (t2.1+1)) x1 x2).bind fun t3 =>
 l0 k x0 t2.1 x2 (iGe (W (x1-t2.1)) (W (Int.tdiv (W (x1-x0)) 8))) t2.2.1 t3 else if (iGt x0 0) then ix (W (x0-1)) t0.2.2 <| ix t0.1 t0.2.2 <| (qbrz.f (rd (0,0) t0.2.2 (W (x0-1))).1 (rd (0,0) t0.2.2 (W (x0-1))).2 (rd (0,0) t0.2.2 t0.1).1 (rd (0,0) t0.2.2 t0.1).2).bind fun t1 =>
 if (!(iLt t1 0)) then (qacz.f k t0.2.2 x0 x1 t0.1).bind fun t2 =>
 l0 k t2.1 x1 x2 x3 x4 t2.2 else (qamz.f k t0.2.2 x0 x1 t0.1).bind fun t2 =>
 if (iLt (W (t2.1-x0)) (W (x1-t2.1))) then (f k t2.2.2 x0 t2.1 x2).bind fun t3 =>
 l0 k (W (t2.1+1)) x1 x2 (iGe (W (t2.1-x0)) (W (Int.tdiv (W (x1-x0)) 8))) t2.2.1 t3 else (f k t2.2.2 (W (t2.1+1)) x1 x2).bind fun t3 =>
 l0 k x0 t2.1 x2 (iGe (W (x1-t2.1)) (W (Int.tdiv (W (x1-x0)) 8))) t2.2.1 t3 else (qamz.f k t0.2.2 x0 x1 t0.1).bind fun t1 =>
 if (iLt (W (t1.1-x0)) (W (x1-t1.1))) then (f k t1.2.2 x0 t1.1 x2).bind fun t2 =>
 l0 k (W (t1.1+1)) x1 x2 (iGe (W (t1.1-x0)) (W (Int.tdiv (W (x1-x0)) 8))) t1.2.1 t2 else (f k t1.2.2 (W (t1.1+1)) x1 x2).bind fun t2 =>
 l0 k x0 t1.1 x2 (iGe (W (x1-t1.1)) (W (Int.tdiv (W (x1-x0)) 8))) t1.2.1 t2 else if (iGt x0 0) then ix (W (x0-1)) t0.2.2 <| ix t0.1 t0.2.2 <| (qbrz.f (rd (0,0) t0.2.2 (W (x0-1))).1 (rd (0,0) t0.2.2 (W (x0-1))).2 (rd (0,0) t0.2.2 t0.1).1 (rd (0,0) t0.2.2 t0.1).2).bind fun t1 =>
 if (!(iLt t1 0)) then (qacz.f k t0.2.2 x0 x1 t0.1).bind fun t2 =>
 l0 k t2.1 x1 x2 x3 x4 t2.2 else (qamz.f k t0.2.2 x0 x1 t0.1).bind fun t2 =>
 if (iLt (W (t2.1-x0)) (W (x1-t2.1))) then (f k t2.2.2 x0 t2.1 x2).bind fun t3 =>
 l0 k (W (t2.1+1)) x1 x2 (iGe (W (t2.1-x0)) (W (Int.tdiv (W (x1-x0)) 8))) t2.2.1 t3 else (f k t2.2.2 (W (t2.1+1)) x1 x2).bind fun t3 =>
 l0 k x0 t2.1 x2 (iGe (W (x1-t2.1)) (W (Int.tdiv (W (x1-x0)) 8))) t2.2.1 t3 else (qamz.f k t0.2.2 x0 x1 t0.1).bind fun t1 =>
 if (iLt (W (t1.1-x0)) (W (x1-t1.1))) then (f k t1.2.2 x0 t1.1 x2).bind fun t2 =>
 l0 k (W (t1.1+1)) x1 x2 (iGe (W (t1.1-x0)) (W (Int.tdiv (W (x1-x0)) 8))) t1.2.1 t2 else (f k t1.2.2 (W (t1.1+1)) x1 x2).bind fun t2 =>
 l0 k x0 t1.1 x2 (iGe (W (x1-t1.1)) (W (Int.tdiv (W (x1-x0)) 8))) t1.2.1 t2 else if (iGt x0 0) then ix (W (x0-1)) t0.2.2 <| ix t0.1 t0.2.2 <| (qbrz.f (rd (0,0) t0.2.2 (W (x0-1))).1 (rd (0,0) t0.2.2 (W (x0-1))).2 (rd (0,0) t0.2.2 t0.1).1 (rd (0,0) t0.2.2 t0.1).2).bind fun t1 =>
 if (!(iLt t1 0)) then (qacz.f k t0.2.2 x0 x1 t0.1).bind fun t2 =>
 l0 k t2.1 x1 x2 x3 x4 t2.2 else (qamz.f k t0.2.2 x0 x1 t0.1).bind fun t2 =>
 if (iLt (W (t2.1-x0)) (W (x1-t2.1))) then (f k t2.2.2 x0 t2.1 x2).bind fun t3 =>
 l0 k (W (t2.1+1)) x1 x2 (iGe (W (t2.1-x0)) (W (Int.tdiv (W (x1-x0)) 8))) t2.2.1 t3 else (f k t2.2.2 (W (t2.1+1)) x1 x2).bind fun t3 =>
 l0 k x0 t2.1 x2 (iGe (W (x1-t2.1)) (W (Int.tdiv (W (x1-x0)) 8))) t2.2.1 t3 else (qamz.f k t0.2.2 x0 x1 t0.1).bind fun t1 =>
 if (iLt (W (t1.1-x0)) (W (x1-t1.1))) then (f k t1.2.2 x0 t1.1 x2).bind fun t2 =>
 l0 k (W (t1.1+1)) x1 x2 (iGe (W (t1.1-x0)) (W (Int.tdiv (W (x1-x0)) 8))) t1.2.1 t2 else (f k t1.2.2 (W (t1.1+1)) x1 x2).bind fun t2 =>
 l0 k x0 t1.1 x2 (iGe (W (x1-t1.1)) (W (Int.tdiv (W (x1-x0)) 8))) t1.2.1 t2) r):Ev (fun k=>l0 k x0 x1 x2 x3 x4 x5) r:=evl [] 0 (fun _ _ h=>by rw [<- qbrz.k (dl h)]; kernel_rfl) h
end qapz
namespace qahz
def f (k:Fu) (a0:List (Int×Int)):Option (List (Int×Int)):=PI Cx (k 0) 283 [.sv (.one (.frow 155 (.pair i6 i6) a0)),.sv (.one (.fn 284 []))]
theorem v {a0:List (Int×Int)} {r} (h:Ev (fun k=>(qeoz.f (IntKind.wrap .u64 (ln a0))).bind fun t0 =>
 (qapz.f k a0 0 (ln a0) t0).bind fun t1 =>
 some t1) r):Ev (fun k=>f k a0) r:=evf (fun _ _ h=>by rw [<- qeoz.k (dl h)]; exact zaf Cx (by kernel_rfl)) h
end qahz
namespace qbzz
def f (k:Fu) (a0:List (Int×Int)):Option ((List Int)×Bool):=PI Cx (k 0) 256 [vl 155 (.pair i6 i6) a0]
def l0 (k:Fu) (x0 x1 x2:Int) (x3:List Int) (x4:List (Int×Int)):Option ((List Int)×Bool):=zan Cx (k 0) 256 [tt,tt,tt,tt,tt,tt,ff,tt,tt] [k 1] ⟨[(5,vf 1000000005000),(6,vi x0),(16,vf 1000000016000),(17,vi x1),(18,vi x2)],[(1000000005000,.row 3 i6 x3 .own),(1000000016000,.row 155 (.pair i6 i6) x4 .own)],[]⟩
theorem v {a0:List (Int×Int)} {r} (h:Ev (fun k=>(qehz.f k a0).bind fun t0 =>
 if (!t0) then some ([],false) else (qbiz.f a0).bind fun t1 =>
 (qahz.f k t1).bind fun t2 =>
 l0 k (-1) (ln t2) 0 [] t2) r):Ev (fun k=>f k a0) r:=evf (fun _ _ h=>by rw [<- qbiz.k (dl h)]; exact zaf Cx (by kernel_rfl)) h
theorem v0 {x0 x1 x2:Int} {x3:List Int} {x4:List (Int×Int)} {r} (h:Ev (fun k=>if (iLt x2 x1) then ix x2 x4 <| if (iGt (rd (0,0) x4 x2).1 x0) then gd (((lnN x3)+1)<=17592186044416) <| l0 k (W ((rd (0,0) x4 x2).1+(rd (0,0) x4 x2).2)) x1 (W (x2+1)) (x3++[(W ((rd (0,0) x4 x2).1+(rd (0,0) x4 x2).2))]) x4 else l0 k x0 x1 (W (x2+1)) x3 x4 else some (x3,true)) r):Ev (fun k=>l0 k x0 x1 x2 x3 x4) r:=evl [] 0 (fun _ _ _=>by kernel_rfl) h
end qbzz
namespace qdvz
abbrev P:=Int->Option Bool
def f:P:=fun a0=>(qgwz.f a0 1 200).bind fun t0 =>
 some t0
theorem k {K:Nat} (h:2<=K):(fun a0=>PI Cx K 184 [vi a0]:P)=f:=by
 obtain ⟨K,rfl⟩:=zah h
 funext a0
 unfold f
 rw [<- qgwz.k (dk h)]
 exact zaf Cx (by kernel_rfl)
end qdvz
namespace qfaz
abbrev P:=Int->Int->Int->Option Bool
def f:P:=fun a0 a1 a2=>(qdvz.f a0).bind fun t0 =>
 if t0 then (qgwz.f a1 0 200).bind fun t1 =>
 if t1 then (qgwz.f a2 0 200).bind fun t2 =>
 some t2 else some false else some false
theorem k {K:Nat} (h:3<=K):(fun a0 a1 a2=>PI Cx K 117 [vi a0,vi a1,vi a2]:P)=f:=by
 obtain ⟨K,rfl⟩:=zah h
 funext a0 a1 a2
 unfold f
 rw [<- qdvz.k (dk h),<- qgwz.k (dk h)]
 exact zaf Cx (by kernel_rfl)
end qfaz
namespace qbwz
def f (k:Fu) (a0 a1 a2:Int):Option Int:=PI Cx (k 0) 118 [vi a0,vi a1,vi a2]
def l0 (k:Fu) (x0 x1 x2 x3 x4 x5:Int):Option Int:=zan Cx (k 0) 118 [tt,tt,ff,tt,tt] [k 1] ⟨[(0,vi x0),(1,vi x1),(2,vi x2),(7,vi x3),(10,vi x4),(11,vi x5)],[],[]⟩
def l1 (k:Fu) (x0 x1 x2 x3 x4 x5 x6 x7 x8:Int):Option Int:=zan Cx (k 0) 118 [tt,tt,ff,tt,tt,tt,tt,tt,ff,tt,tt,tt,tt] [k 1,k 2] ⟨[(0,vi x0),(1,vi x1),(2,vi x2),(7,vi x3),(8,vi x4),(10,vi x5),(11,vi x6),(14,vi x7),(15,vi x8)],[],[]⟩
theorem v {a0 a1 a2:Int} {r} (h:Ev (fun k=>l0 k a0 a1 a2 0 a0 0) r):Ev (fun k=>f k a0 a1 a2) r:=evf (fun _ _ _=>zaf Cx (by kernel_rfl)) h
theorem v0 {x0 x1 x2 x3 x4 x5:Int} {r} (h:Ev (fun k=>if (iLt x5 x4) then l1 k x0 x1 x2 x3 x5 x4 x5 x0 0 else some x3) r):Ev (fun k=>l0 k x0 x1 x2 x3 x4 x5) r:=evl [] 0 (fun _ _ _=>by kernel_rfl) h
theorem v1 {x0 x1 x2 x3 x4 x5 x6 x7 x8:Int} {r} (h:Ev (fun k=>if (iLt x8 x7) then if (iLe x8 (W (x4+x1))) then if (iLe x4 (W (x8+x2))) then l1 k x0 x1 x2 (W (x3+1)) x4 x5 x6 x7 (W (x8+1)) else l1 k x0 x1 x2 x3 x4 x5 x6 x7 (W (x8+1)) else l1 k x0 x1 x2 x3 x4 x5 x6 x7 (W (x8+1)) else l0 k x0 x1 x2 x3 x5 (W (x6+1))) r):Ev (fun k=>l1 k x0 x1 x2 x3 x4 x5 x6 x7 x8) r:=evl [1] 1 (fun _ _ _=>by kernel_rfl) h
end qbwz
namespace qbmz
def f (k:Fu) (a0 a1 a2:Int):Option (Int×(Int×Bool)):=PI Cx (k 0) 66 [vi a0,vi a1,vi a2]
theorem v {a0 a1 a2:Int} {r} (h:Ev (fun k=>(qfaz.f a0 a1 a2).bind fun t0 =>
 if (!t0) then some (0,(0,false)) else (qbwz.f k a0 a1 a2).bind fun t1 =>
 (qevz.f k t1 (W (a0*a0))).bind fun t2 =>
 some t2) r):Ev (fun k=>f k a0 a1 a2) r:=evf (fun _ _ h=>by rw [<- qfaz.k (dl h)]; exact zaf Cx (by kernel_rfl)) h
end qbmz
namespace qdyz
def f (k:Fu) (a0:BA) (a1:List (Int×Int)) (a2 a3 a4 a5:Int) (a6 a7:List (Int×Int)) (a8:List Int):Option (BA×(Bool×((List (Int×Int))×(Int×(Int×(Int×(Int×((List (Int×Int))×((List (Int×Int))×(List Int)))))))))):=PI Cx (k 0) 204 [vs a0,va [.sl 74 (.pair i6 i6) a1,ci a2,ci a3,ci a4,ci a5,.sl 88 (.pair i6 i6) a6,.sl 155 (.pair i6 i6) a7,.frow 3 i6 a8]]
theorem v {a0:BA} {a1:List (Int×Int)} {a2 a3 a4 a5:Int} {a6 a7:List (Int×Int)} {a8:List Int} {r} (h:Ev (fun k=>if (seq a0 (bs [100,111,103])) then (qdgz.f k a2 a3 a4 a5).bind fun t0 =>
 (qhqz.f k t0.1 t0.2.1 t0.2.2).bind fun t1 =>
 some (t1.1,(t1.2,(a1,(a2,(a3,(a4,(a5,(a6,(a7,a8))))))))) else if (seq a0 (bs [114,117,110])) then (qcuz.f k a2 a3 a4 a5).bind fun t0 =>
 (qhqz.f k t0.1 t0.2.1 t0.2.2).bind fun t1 =>
 some (t1.1,(t1.2,(a1,(a2,(a3,(a4,(a5,(a6,(a7,a8))))))))) else if (seq a0 (bs [97,112,97,114,116])) then gd (0 < (ln a8)) <| (qboz.f k a2 a3 a4 a5 (rd 0 a8 0)).bind fun t0 =>
 (qhqz.f k t0.1 t0.2.1 t0.2.2).bind fun t1 =>
 some (t1.1,(t1.2,(a1,(a2,(a3,(a4,(a5,(a6,(a7,a8))))))))) else if (seq a0 (bs [109,101,97,110])) then (qemz.f k a6).bind fun t0 =>
 (qhqz.f k t0.1 t0.2.1 t0.2.2).bind fun t1 =>
 some (t1.1,(t1.2,(a1,(a2,(a3,(a4,(a5,(a6,(a7,a8))))))))) else if (seq a0 (bs [116,105,109,101])) then (qdfz.f k a6).bind fun t0 =>
 (qhqz.f k t0.1 t0.2.1 t0.2.2).bind fun t1 =>
 some (t1.1,(t1.2,(a1,(a2,(a3,(a4,(a5,(a6,(a7,a8))))))))) else if (seq a0 (bs [110,101,101,100])) then gd (0 < (ln a8)) <| gd (1 < (ln a8)) <| (qcsz.f k a6 (rd 0 a8 0) (rd 0 a8 1)).bind fun t0 =>
 (qhqz.f k t0.1 t0.2.1 t0.2.2).bind fun t1 =>
 some (t1.1,(t1.2,(a1,(a2,(a3,(a4,(a5,(a6,(a7,a8))))))))) else if (seq a0 (bs [118,105,115,105,116,115])) then (qcgz.f k a7).bind fun t0 =>
 (qhcz.f k t0.1 (bs [44]) (bs [32]) t0.2).bind fun t1 =>
 some (t1.1,(t1.2,(a1,(a2,(a3,(a4,(a5,(a6,(a7,a8))))))))) else if (seq a0 (bs [103,117,105,100,101,115])) then (qbzz.f k a7).bind fun t0 =>
 (qfqz.f k t0.1 t0.2).bind fun t1 =>
 some (t1.1,(t1.2,(a1,(a2,(a3,(a4,(a5,(a6,(a7,a8))))))))) else gd (0 < (ln a8)) <| gd (1 < (ln a8)) <| gd (2 < (ln a8)) <| (qbmz.f k (rd 0 a8 0) (rd 0 a8 1) (rd 0 a8 2)).bind fun t0 =>
 (qhqz.f k t0.1 t0.2.1 t0.2.2).bind fun t1 =>
 some (t1.1,(t1.2,(a1,(a2,(a3,(a4,(a5,(a6,(a7,a8)))))))))) r):Ev (fun k=>f k a0 a1 a2 a3 a4 a5 a6 a7 a8) r:=evf (fun _ _ _=>zaf Cx (by kernel_rfl)) h
end qdyz
namespace qezz
def f (k:Fu) (a0:List (Int×Int)) (a1:Int) (a2:BA) (a3:List (Int×Int)) (a4 a5 a6 a7:Int) (a8 a9:List (Int×Int)) (a10:List Int):Option (BA×(Bool×((List (Int×Int))×(Int×(Int×(Int×(Int×((List (Int×Int))×((List (Int×Int))×(List Int)))))))))):=PI Cx (k 0) 142 [va [.sl 74 (.pair i6 i6) a0,ci a1],vs a2,va [.sl 74 (.pair i6 i6) a3,ci a4,ci a5,ci a6,ci a7,.sl 88 (.pair i6 i6) a8,.sl 155 (.pair i6 i6) a9,.frow 3 i6 a10]]
theorem v {a0:List (Int×Int)} {a1:Int} {a2:BA} {a3:List (Int×Int)} {a4 a5 a6 a7:Int} {a8 a9:List (Int×Int)} {a10:List Int} {r} (h:Ev (fun k=>if (seq a2 (bs [112,97,105,114,115])) then (qbvz.f k a0).bind fun t0 =>
 (qgyz.f t0.1 t0.2).bind fun t1 =>
 some (t1.1,(t1.2,(a3,(a4,(a5,(a6,(a7,(a8,(a9,a10))))))))) else if (seq a2 (bs [102,105,114,115,116])) then (qcjz.f k a0).bind fun t0 =>
 if (!t0.2) then some ((bs []),(false,(a3,(a4,(a5,(a6,(a7,(a8,(a9,a10))))))))) else if ((ln t0.1) == 0) then some ((bs []),(false,(a3,(a4,(a5,(a6,(a7,(a8,(a9,a10))))))))) else gd (0 < (ln t0.1)) <| gd (2<=(ln (rd [] t0.1 0))) <| (qfqz.f k (List.take 2 (rd [] t0.1 0)) true).bind fun t1 =>
 some (t1.1,(t1.2,(a3,(a4,(a5,(a6,(a7,(a8,(a9,a10))))))))) else if (seq a2 (bs [108,101,97,100])) then (qdzz.f k a0).bind fun t0 =>
 (qfqz.f k t0.1 t0.2).bind fun t1 =>
 some (t1.1,(t1.2,(a3,(a4,(a5,(a6,(a7,(a8,(a9,a10))))))))) else if (seq a2 (bs [108,97,115,116])) then (qdwz.f k a0).bind fun t0 =>
 (qfqz.f k t0.1 t0.2).bind fun t1 =>
 some (t1.1,(t1.2,(a3,(a4,(a5,(a6,(a7,(a8,(a9,a10))))))))) else if (seq a2 (bs [97,116])) then gd (0 < (ln a10)) <| (qegz.f k a0 (rd 0 a10 0) 1).bind fun t0 =>
 (qfqz.f k t0.1 t0.2).bind fun t1 =>
 some (t1.1,(t1.2,(a3,(a4,(a5,(a6,(a7,(a8,(a9,a10))))))))) else if (seq a2 (bs [115,116,97,114,116])) then (qdlz.f k a1 a0).bind fun t0 =>
 (qhqz.f k t0.1 t0.2.1 t0.2.2).bind fun t1 =>
 some (t1.1,(t1.2,(a3,(a4,(a5,(a6,(a7,(a8,(a9,a10))))))))) else if (seq a2 (bs [109,101,101,116])) then gd (0 < (ln a10)) <| (qbnz.f a0 a1 (rd 0 a10 0)).bind fun t0 =>
 if (!t0) then some ((bs []),(false,(a3,(a4,(a5,(a6,(a7,(a8,(a9,a10))))))))) else gd (1 < (ln a10)) <| (qbnz.f a0 a1 (rd 0 a10 1)).bind fun t1 =>
 if (!t1) then some ((bs []),(false,(a3,(a4,(a5,(a6,(a7,(a8,(a9,a10))))))))) else gd (0 < (ln a10)) <| ix (rd 0 a10 0) a0 <| gd (1 < (ln a10)) <| ix (rd 0 a10 1) a0 <| (qbxz.f k a0 a1 a2 (rd (0,0) a0 (rd 0 a10 0)).1 (rd (0,0) a0 (rd 0 a10 0)).2 (rd (0,0) a0 (rd 0 a10 1)).1 (rd (0,0) a0 (rd 0 a10 1)).2).bind fun t2 =>
 some (t2.1,(t2.2,(a3,(a4,(a5,(a6,(a7,(a8,(a9,a10))))))))) else if (seq a2 (bs [119,104,101,114,101])) then gd (0 < (ln a10)) <| (qbnz.f a0 a1 (rd 0 a10 0)).bind fun t0 =>
 if (!t0) then some ((bs []),(false,(a3,(a4,(a5,(a6,(a7,(a8,(a9,a10))))))))) else gd (1 < (ln a10)) <| (qbnz.f a0 a1 (rd 0 a10 1)).bind fun t1 =>
 if (!t1) then some ((bs []),(false,(a3,(a4,(a5,(a6,(a7,(a8,(a9,a10))))))))) else gd (0 < (ln a10)) <| ix (rd 0 a10 0) a0 <| gd (1 < (ln a10)) <| ix (rd 0 a10 1) a0 <| (qbxz.f k a0 a1 a2 (rd (0,0) a0 (rd 0 a10 0)).1 (rd (0,0) a0 (rd 0 a10 0)).2 (rd (0,0) a0 (rd 0 a10 1)).1 (rd (0,0) a0 (rd 0 a10 1)).2).bind fun t2 =>
 some (t2.1,(t2.2,(a3,(a4,(a5,(a6,(a7,(a8,(a9,a10))))))))) else if (seq a2 (bs [97,114,111,117,110,100])) then gd (0 < (ln a10)) <| (qbnz.f a0 a1 (rd 0 a10 0)).bind fun t0 =>
 if (!t0) then some ((bs []),(false,(a3,(a4,(a5,(a6,(a7,(a8,(a9,a10))))))))) else gd (1 < (ln a10)) <| (qbnz.f a0 a1 (rd 0 a10 1)).bind fun t1 =>
 if (!t1) then some ((bs []),(false,(a3,(a4,(a5,(a6,(a7,(a8,(a9,a10))))))))) else gd (0 < (ln a10)) <| ix (rd 0 a10 0) a0 <| gd (1 < (ln a10)) <| ix (rd 0 a10 1) a0 <| (qbxz.f k a0 a1 a2 (rd (0,0) a0 (rd 0 a10 0)).1 (rd (0,0) a0 (rd 0 a10 0)).2 (rd (0,0) a0 (rd 0 a10 1)).1 (rd (0,0) a0 (rd 0 a10 1)).2).bind fun t2 =>
 some (t2.1,(t2.2,(a3,(a4,(a5,(a6,(a7,(a8,(a9,a10))))))))) else if (seq a2 (bs [103,97,112])) then gd (0 < (ln a10)) <| (qbnz.f a0 a1 (rd 0 a10 0)).bind fun t0 =>
 if (!t0) then some ((bs []),(false,(a3,(a4,(a5,(a6,(a7,(a8,(a9,a10))))))))) else gd (1 < (ln a10)) <| (qbnz.f a0 a1 (rd 0 a10 1)).bind fun t1 =>
 if (!t1) then some ((bs []),(false,(a3,(a4,(a5,(a6,(a7,(a8,(a9,a10))))))))) else gd (0 < (ln a10)) <| ix (rd 0 a10 0) a0 <| gd (1 < (ln a10)) <| ix (rd 0 a10 1) a0 <| (qbxz.f k a0 a1 a2 (rd (0,0) a0 (rd 0 a10 0)).1 (rd (0,0) a0 (rd 0 a10 0)).2 (rd (0,0) a0 (rd 0 a10 1)).1 (rd (0,0) a0 (rd 0 a10 1)).2).bind fun t2 =>
 some (t2.1,(t2.2,(a3,(a4,(a5,(a6,(a7,(a8,(a9,a10))))))))) else if (seq a2 (bs [112,108,97,99,101,115])) then gd (0 < (ln a10)) <| (qbnz.f a0 a1 (rd 0 a10 0)).bind fun t0 =>
 if (!t0) then some ((bs []),(false,(a3,(a4,(a5,(a6,(a7,(a8,(a9,a10))))))))) else gd (1 < (ln a10)) <| (qbnz.f a0 a1 (rd 0 a10 1)).bind fun t1 =>
 if (!t1) then some ((bs []),(false,(a3,(a4,(a5,(a6,(a7,(a8,(a9,a10))))))))) else gd (0 < (ln a10)) <| ix (rd 0 a10 0) a0 <| gd (1 < (ln a10)) <| ix (rd 0 a10 1) a0 <| (qbxz.f k a0 a1 a2 (rd (0,0) a0 (rd 0 a10 0)).1 (rd (0,0) a0 (rd 0 a10 0)).2 (rd (0,0) a0 (rd 0 a10 1)).1 (rd (0,0) a0 (rd 0 a10 1)).2).bind fun t2 =>
 some (t2.1,(t2.2,(a3,(a4,(a5,(a6,(a7,(a8,(a9,a10))))))))) else (qdyz.f k a2 a3 a4 a5 a6 a7 a8 a9 a10).bind fun t0 =>
 some t0) r):Ev (fun k=>f k a0 a1 a2 a3 a4 a5 a6 a7 a8 a9 a10) r:=evf (fun _ _ h=>by rw [<- qgyz.k (dl h),<- qbnz.k (dl h)]; exact zaf Cx (by kernel_rfl)) h
end qezz
namespace qczz
def f (k:Fu) (a0:List (Int×Int)) (a1:Int) (a2:BA) (a3:List (Int×Int)) (a4 a5 a6 a7:Int) (a8 a9:List (Int×Int)) (a10:List Int):Option (((List (Int×Int))×Int)×(BA×(Bool×((List (Int×Int))×(Int×(Int×(Int×(Int×((List (Int×Int))×((List (Int×Int))×(List Int))))))))))):=PI Cx (k 0) 95 [va [.sl 74 (.pair i6 i6) a0,ci a1],vs a2,va [.sl 74 (.pair i6 i6) a3,ci a4,ci a5,ci a6,ci a7,.sl 88 (.pair i6 i6) a8,.sl 155 (.pair i6 i6) a9,.frow 3 i6 a10]]
theorem v {a0:List (Int×Int)} {a1:Int} {a2:BA} {a3:List (Int×Int)} {a4 a5 a6 a7:Int} {a8 a9:List (Int×Int)} {a10:List Int} {r} (h:Ev (fun k=>if (seq a2 (bs [119,97,108,107,101,114,115])) then (qfyz.f k a3 a1).bind fun t0 =>
 if (!t0) then some ((a3,a1),((bs []),(false,(a3,(a4,(a5,(a6,(a7,(a8,(a9,a10)))))))))) else (qdbz.f k a3).bind fun t1 =>
 some ((a3,a1),(t1.1,(t1.2,(a3,(a4,(a5,(a6,(a7,(a8,(a9,a10)))))))))) else if (seq a2 (bs [114,105,110,103])) then gd (0 < (ln a10)) <| (qfyz.f k a0 (rd 0 a10 0)).bind fun t0 =>
 if (!t0) then some ((a0,(rd 0 a10 0)),((bs []),(false,(a3,(a4,(a5,(a6,(a7,(a8,(a9,a10)))))))))) else (qdbz.f k a0).bind fun t1 =>
 some ((a0,(rd 0 a10 0)),(t1.1,(t1.2,(a3,(a4,(a5,(a6,(a7,(a8,(a9,a10)))))))))) else if (seq a2 (bs [116,117,114,110])) then gd (0 < (ln a10)) <| (qbnz.f a0 a1 (rd 0 a10 0)).bind fun t0 =>
 if (!t0) then some ((a0,a1),((bs []),(false,(a3,(a4,(a5,(a6,(a7,(a8,(a9,a10)))))))))) else (qbfz.f a0).bind fun t1 =>
 gd (0 < (ln a10)) <| ix (rd 0 a10 0) t1 <| ix (rd 0 a10 0) t1 <| (qfyz.f k (List.set t1 (Int.toNat (rd 0 a10 0)) ((rd (0,0) t1 (rd 0 a10 0)).1,(W ((rd (0,0) t1 (rd 0 a10 0)).2*(-1))))) a1).bind fun t2 =>
 if (!t2) then some (((List.set t1 (Int.toNat (rd 0 a10 0)) ((rd (0,0) t1 (rd 0 a10 0)).1,(W ((rd (0,0) t1 (rd 0 a10 0)).2*(-1))))),a1),((bs []),(false,(a3,(a4,(a5,(a6,(a7,(a8,(a9,a10)))))))))) else (qdbz.f k (List.set t1 (Int.toNat (rd 0 a10 0)) ((rd (0,0) t1 (rd 0 a10 0)).1,(W ((rd (0,0) t1 (rd 0 a10 0)).2*(-1)))))).bind fun t3 =>
 some (((List.set t1 (Int.toNat (rd 0 a10 0)) ((rd (0,0) t1 (rd 0 a10 0)).1,(W ((rd (0,0) t1 (rd 0 a10 0)).2*(-1))))),a1),(t3.1,(t3.2,(a3,(a4,(a5,(a6,(a7,(a8,(a9,a10)))))))))) else if (seq a2 (bs [97,100,100])) then (qbez.f k [a0,a3]).bind fun t0 =>
 (qfyz.f k t0 a1).bind fun t1 =>
 if (!t1) then some ((t0,a1),((bs []),(false,(a3,(a4,(a5,(a6,(a7,(a8,(a9,a10)))))))))) else (qdbz.f k t0).bind fun t2 =>
 some ((t0,a1),(t2.1,(t2.2,(a3,(a4,(a5,(a6,(a7,(a8,(a9,a10)))))))))) else if (seq a2 (bs [100,114,111,112])) then gd (0 < (ln a10)) <| (qbnz.f a0 a1 (rd 0 a10 0)).bind fun t0 =>
 if (!t0) then some ((a0,a1),((bs []),(false,(a3,(a4,(a5,(a6,(a7,(a8,(a9,a10)))))))))) else (qbfz.f a0).bind fun t1 =>
 gd (0 < (ln a10)) <| gd (0 < (ln a10)) <| ix (rd 0 a10 0) t1 <| gd ((W ((rd 0 a10 0)+1))=((rd 0 a10 0)+1)) <| gd ((ln t1)<=5000000000000) <| (qfyz.f k ((List.take (Int.toNat (rd 0 a10 0)) t1)++(List.drop (Int.toNat (W ((rd 0 a10 0)+1))) t1)) a1).bind fun t2 =>
 if (!t2) then some ((((List.take (Int.toNat (rd 0 a10 0)) t1)++(List.drop (Int.toNat (W ((rd 0 a10 0)+1))) t1)),a1),((bs []),(false,(a3,(a4,(a5,(a6,(a7,(a8,(a9,a10)))))))))) else (qdbz.f k ((List.take (Int.toNat (rd 0 a10 0)) t1)++(List.drop (Int.toNat (W ((rd 0 a10 0)+1))) t1))).bind fun t3 =>
 some ((((List.take (Int.toNat (rd 0 a10 0)) t1)++(List.drop (Int.toNat (W ((rd 0 a10 0)+1))) t1)),a1),(t3.1,(t3.2,(a3,(a4,(a5,(a6,(a7,(a8,(a9,a10)))))))))) else if (seq a2 (bs [115,104,111,119])) then (qfyz.f k a0 a1).bind fun t0 =>
 if (!t0) then some ((a0,a1),((bs []),(false,(a3,(a4,(a5,(a6,(a7,(a8,(a9,a10)))))))))) else (qdbz.f k a0).bind fun t1 =>
 some ((a0,a1),(t1.1,(t1.2,(a3,(a4,(a5,(a6,(a7,(a8,(a9,a10)))))))))) else (qezz.f k a0 a1 a2 a3 a4 a5 a6 a7 a8 a9 a10).bind fun t0 =>
 some ((a0,a1),t0)) r):Ev (fun k=>f k a0 a1 a2 a3 a4 a5 a6 a7 a8 a9 a10) r:=evf (fun _ _ h=>by rw [<- qbnz.k (dl h),<- qbfz.k (dl h)]; exact zaf Cx (by kernel_rfl)) h
end qczz
namespace qfbz
def f (k:Fu) (a0:List (Int×Int)) (a1:Int) (a2:BA):Option (((List (Int×Int))×Int)×BA):=PI Cx (k 0) 48 [va [.sl 74 (.pair i6 i6) a0,ci a1],vs a2]
def l0 (k:Fu) (x0:List BA) (x1:BA) (x2:List BA) (x3 x4:Int) (x5:List (Int×Int)) (x6 x7:Int) (x8:List (Int×Int)) (x9 x10 x11 x12:Int) (x13 x14:List (Int×Int)) (x15:List Int):Option (((List (Int×Int))×Int)×BA):=zan Cx (k 0) 48 [tt,tt,tt,tt,tt,ff,tt,tt] [k 1] ⟨[(2,vp 0 0),(4,vp 1000 0),(6,vl 9 .str x0),(7,vs x1),(9,vp 5000000 0),(35,vl 9 .str x2),(36,vi x3),(37,vi x4)],[(0,.box 24 [.sl 74 (.pair i6 i6) x5,ci x6]),(1000,.box 24 [.nilsl,ci x7]),(5000000,.box 118 [.sl 74 (.pair i6 i6) x8,ci x9,ci x10,ci x11,ci x12,.sl 88 (.pair i6 i6) x13,.sl 155 (.pair i6 i6) x14,.full 2000005000000007]),(2000005000000007,.row 3 i6 x15 .come)],[]⟩
theorem v {a0:List (Int×Int)} {a1:Int} {a2:BA} {r} (h:Ev (fun k=>(qfcz.f a2 (bs [32])).bind fun t0 =>
 gd (0 < (ln t0)) <| (qesz.f (rd (bs []) t0 0)).bind fun t1 =>
 if (!t1.2) then some ((a0,a1),(bs [119,104,97,116])) else if ((sln t1.1) != (W ((ln t0)-1))) then some ((a0,a1),(bs [119,104,97,116])) else gd (1<=(ln t0)) <| l0 k t0 t1.1 (List.drop 1 t0) (ln (List.drop 1 t0)) 0 a0 a1 0 [] 0 0 0 0 [] [] []) r):Ev (fun k=>f k a0 a1 a2) r:=evf (fun _ _ h=>by rw [<- qfcz.k (dl h),<- qesz.k (dl h)]; exact zaf Cx (by kernel_rfl)) h
theorem v0 {x0:List BA} {x1:BA} {x2:List BA} {x3 x4:Int} {x5:List (Int×Int)} {x6 x7:Int} {x8:List (Int×Int)} {x9 x10 x11 x12:Int} {x13 x14:List (Int×Int)} {x15:List Int} {r} (h:Ev (fun k=>if (iLt x4 x3) then ix x4 x2 <| gd (0<=x4) <| gd (x4 < (sln x1)) <| (qbtz.f k x8 x9 x10 x11 x12 x13 x14 x15 (bat x1 x4) (rd (bs []) x2 x4)).bind fun t0 =>
 if (!t0.1) then some ((x5,x6),(bs [119,104,97,116])) else l0 k x0 x1 x2 x3 (W (x4+1)) x5 x6 x7 t0.2.1 t0.2.2.1 t0.2.2.2.1 t0.2.2.2.2.1 t0.2.2.2.2.2.1 t0.2.2.2.2.2.2.1 t0.2.2.2.2.2.2.2.1 t0.2.2.2.2.2.2.2.2 else gd (0 < (ln x0)) <| (qczz.f k x5 x6 (rd (bs []) x0 0) x8 x9 x10 x11 x12 x13 x14 x15).bind fun t0 =>
 if (!t0.2.2.1) then some ((x5,x6),(bs [110,111])) else some (t0.1,t0.2.1)) r):Ev (fun k=>l0 k x0 x1 x2 x3 x4 x5 x6 x7 x8 x9 x10 x11 x12 x13 x14 x15) r:=evl [] 0 (fun _ _ _=>by kernel_rfl) h
end qfbz
namespace qfnz
def f (k:Fu) (a0:BA) (a1:Int):Option (List BA):=PI Cx (k 0) 51 [vs a0,.sv (.one (.int .u8 a1))]
def l0 (k:Fu) (x0:BA) (x1 x2 x3:Int) (x4:List BA):Option (List BA):=zan Cx (k 0) 51 [tt,tt,tt,ff,tt,tt] [k 1] ⟨[(0,vs x0),(1,.sv (.one (.int .u8 x1))),(5,vf 1000000005000),(6,vi x2),(7,vi x3)],[(1000000005000,.row 9 .str x4 .own)],[]⟩
theorem v {a0:BA} {a1:Int} {r} (h:Ev (fun k=>l0 k a0 a1 0 0 []) r):Ev (fun k=>f k a0 a1) r:=evf (fun _ _ _=>zaf Cx (by kernel_rfl)) h
theorem v0 {x0:BA} {x1 x2 x3:Int} {x4:List BA} {r} (h:Ev (fun k=>if (iLt x3 (sln x0)) then gd (0<=x3) <| gd (x3 < (sln x0)) <| if ((bat x0 x3) == x1) then gd (0<=x2) <| gd (x2<=x3) <| gd (x3<=(sln x0)) <| gd (((lnN x4)+1)<=8796093022208) <| l0 k x0 x1 (W (x3+1)) (W (x3+1)) (x4++[(ByteArray.extract x0 (Int.toNat x2) (Int.toNat x3))]) else l0 k x0 x1 x2 (W (x3+1)) x4 else gd (0<=x2) <| gd (x2<=(sln x0)) <| gd (((lnN x4)+1)<=8796093022208) <| some (x4++[(ByteArray.extract x0 (Int.toNat x2) (Int.toNat (sln x0)))])) r):Ev (fun k=>l0 k x0 x1 x2 x3 x4) r:=evl [] 0 (fun _ _ _=>by kernel_rfl) h
end qfnz
namespace qenz
abbrev P:=Option ((List (Int×Int))×Int)
def f:P:=some ([(0,3),(10,(-2))],10)
theorem k {K:Nat} (h:1<=K):(PI Cx K 72 []:P)=f:=by
 obtain ⟨K,rfl⟩:=zah h
 exact zaf Cx (by kernel_rfl)
end qenz
namespace qfvz
abbrev P:=BA->Option BA
def f:P:=fun a0=>if (seq a0 (bs [115,104,111,119])) then some (bs []) else if (seq a0 (bs [112,97,105,114,115])) then some (bs []) else if (seq a0 (bs [102,105,114,115,116])) then some (bs []) else if (seq a0 (bs [108,101,97,100])) then some (bs []) else if (seq a0 (bs [108,97,115,116])) then some (bs []) else if (seq a0 (bs [115,116,97,114,116])) then some (bs []) else if (seq a0 (bs [114,105,110,103])) then some (bs [110]) else if (seq a0 (bs [116,117,114,110])) then some (bs [110]) else if (seq a0 (bs [100,114,111,112])) then some (bs [110]) else if (seq a0 (bs [97,116])) then some (bs [110]) else if (seq a0 (bs [109,101,101,116])) then some (bs [110,110]) else if (seq a0 (bs [119,104,101,114,101])) then some (bs [110,110]) else if (seq a0 (bs [97,114,111,117,110,100])) then some (bs [110,110]) else if (seq a0 (bs [103,97,112])) then some (bs [110,110]) else if (seq a0 (bs [112,108,97,99,101,115])) then some (bs [110,110]) else if (seq a0 (bs [99,104,97,110,99,101])) then some (bs [110,110,110]) else if (seq a0 (bs [119,97,108,107,101,114,115])) then some (bs [119]) else if (seq a0 (bs [97,100,100])) then some (bs [119]) else if (seq a0 (bs [100,111,103])) then some (bs [99]) else if (seq a0 (bs [114,117,110])) then some (bs [99]) else if (seq a0 (bs [97,112,97,114,116])) then some (bs [99,110]) else if (seq a0 (bs [109,101,97,110])) then some (bs [108]) else if (seq a0 (bs [116,105,109,101])) then some (bs [108]) else if (seq a0 (bs [110,101,101,100])) then some (bs [108,110,110]) else if (seq a0 (bs [118,105,115,105,116,115])) then some (bs [118]) else if (seq a0 (bs [103,117,105,100,101,115])) then some (bs [118]) else some (bs [63])
theorem k {K:Nat} (h:1<=K):(fun a0=>PI Cx K 144 [vs a0]:P)=f:=by
 obtain ⟨K,rfl⟩:=zah h
 funext a0
 exact zaf Cx (by kernel_rfl)
end qfvz
namespace qhpz
abbrev P:=Int->Int->Int->Option Bool
def f:P:=fun a0 a1 a2=>if (iGe a0 a1) then some (iLe a0 a2) else some false
theorem k {K:Nat} (h:1<=K):(fun a0 a1 a2=>PI Cx K 97 [vi a0,vi a1,vi a2]:P)=f:=by
 obtain ⟨K,rfl⟩:=zah h
 funext a0 a1 a2
 exact zaf Cx (by kernel_rfl)
end qhpz
namespace qgkz
def f (k:Fu) (a0:BA):Option Int:=PI Cx (k 0) 145 [vs a0]
def l0 (k:Fu) (x0:BA) (x1 x2:Int):Option Int:=zan Cx (k 0) 145 [tt,tt,tt,ff,tt,tt] [k 1] ⟨[(0,vs x0),(3,vi x1),(4,vi x2)],[],[]⟩
theorem v {a0:BA} {r} (h:Ev (fun k=>(qhpz.f (sln a0) 1 6).bind fun t0 =>
 if (!t0) then some (-1) else gd (0 < (sln a0)) <| if ((bat a0 0) == 48) then if (iGt (sln a0) 1) then some (-1) else l0 k a0 0 0 else l0 k a0 0 0) r):Ev (fun k=>f k a0) r:=evf (fun _ _ h=>by rw [<- qhpz.k (dl h)]; exact zaf Cx (by kernel_rfl)) h
theorem v0 {x0:BA} {x1 x2:Int} {r} (h:Ev (fun k=>if (iLt x2 (sln x0)) then gd (0<=x2) <| gd (x2 < (sln x0)) <| if (iLt (bat x0 x2) 48) then some (-1) else gd (0<=x2) <| gd (x2 < (sln x0)) <| if (iGt (bat x0 x2) 57) then some (-1) else gd (0<=x2) <| gd (x2 < (sln x0)) <| l0 k x0 (W ((W (10*x1))+(W (IntKind.wrap .u8 ((bat x0 x2)-48))))) (W (x2+1)) else some x1) r):Ev (fun k=>l0 k x0 x1 x2) r:=evl [] 0 (fun _ _ _=>by kernel_rfl) h
end qgkz
namespace qgcz
def f (k:Fu) (a0:BA):Option (Int×Bool):=PI Cx (k 0) 205 [vs a0]
theorem v {a0:BA} {r} (h:Ev (fun k=>if (iGt (sln a0) 1) then gd (0 < (sln a0)) <| if ((bat a0 0) == 45) then gd (1<=(sln a0)) <| (qgkz.f k (ByteArray.extract a0 1 (Int.toNat (sln a0)))).bind fun t0 =>
 some ((W (0-t0)),(iGt t0 0)) else (qgkz.f k a0).bind fun t0 =>
 some (t0,(iGe t0 0)) else (qgkz.f k a0).bind fun t0 =>
 some (t0,(iGe t0 0))) r):Ev (fun k=>f k a0) r:=evf (fun _ _ _=>zaf Cx (by kernel_rfl)) h
end qgcz
namespace qgoz
abbrev P:=Int->Int->Option Bool
def f:P:=fun a0 a1=>(qhpz.f a0 (-1000) 1000).bind fun t0 =>
 if t0 then (qhpz.f a1 (-100) 100).bind fun t1 =>
 some t1 else some false
theorem k {K:Nat} (h:2<=K):(fun a0 a1=>PI Cx K 143 [va [ci a0,ci a1]]:P)=f:=by
 obtain ⟨K,rfl⟩:=zah h
 funext a0 a1
 unfold f
 rw [<- qhpz.k (dk h)]
 exact zaf Cx (by kernel_rfl)
end qgoz
namespace qhfz
def f (k:Fu) (a0:List (Int×Int)):Option Bool:=PI Cx (k 0) 96 [vl 74 (.pair i6 i6) a0]
def l0 (k:Fu) (x0:List (Int×Int)) (x1 x2:Int):Option Bool:=zan Cx (k 0) 96 [tt,tt,ff,tt,tt] [k 1] ⟨[(9,vl 74 (.pair i6 i6) x0),(10,vi x1),(11,vi x2)],[],[]⟩
theorem v {a0:List (Int×Int)} {r} (h:Ev (fun k=>(qhpz.f (ln a0) 1 8).bind fun t0 =>
 if (!t0) then some false else l0 k a0 (ln a0) 0) r):Ev (fun k=>f k a0) r:=evf (fun _ _ h=>by rw [<- qhpz.k (dl h)]; exact zaf Cx (by kernel_rfl)) h
theorem v0 {x0:List (Int×Int)} {x1 x2:Int} {r} (h:Ev (fun k=>if (iLt x2 x1) then ix x2 x0 <| (qgoz.f (rd (0,0) x0 x2).1 (rd (0,0) x0 x2).2).bind fun t0 =>
 if (!t0) then some false else l0 k x0 x1 (W (x2+1)) else some true) r):Ev (fun k=>l0 k x0 x1 x2) r:=evl [] 0 (fun _ _ h=>by rw [<- qgoz.k (dl h)]; kernel_rfl) h
end qhfz
namespace qffz
def f (k:Fu) (a0:BA):Option ((List (Int×Int))×Bool):=PI Cx (k 0) 146 [vs a0]
def l0 (k:Fu) (x0:List BA) (x1 x2:Int) (x3:List (Int×Int)):Option ((List (Int×Int))×Bool):=zan Cx (k 0) 146 [tt,tt,tt,ff,tt,tt] [k 1] ⟨[(4,vf 1000000004000),(16,vl 9 .str x0),(17,vi x1),(18,vi x2)],[(1000000004000,.row 74 (.pair i6 i6) x3 .own)],[]⟩
theorem v {a0:BA} {r} (h:Ev (fun k=>if (iGt (sln a0) 100) then some ([],false) else (qfnz.f k a0 44).bind fun t0 =>
 l0 k t0 (ln t0) 0 []) r):Ev (fun k=>f k a0) r:=evf (fun _ _ _=>zaf Cx (by kernel_rfl)) h
theorem v0 {x0:List BA} {x1 x2:Int} {x3:List (Int×Int)} {r} (h:Ev (fun k=>if (iLt x2 x1) then ix x2 x0 <| (qfnz.f k (rd (bs []) x0 x2) 58).bind fun t0 =>
 if ((ln t0) != 2) then some ([],false) else gd (0 < (ln t0)) <| (qgcz.f k (rd (bs []) t0 0)).bind fun t1 =>
 gd (1 < (ln t0)) <| (qgcz.f k (rd (bs []) t0 1)).bind fun t2 =>
 if (!t1.2) then some ([],false) else if (!t2.2) then some ([],false) else gd (((lnN x3)+1)<=8796093022208) <| l0 k x0 x1 (W (x2+1)) (x3++[(t1.1,t2.1)]) else (qhfz.f k x3).bind fun t0 =>
 if (!t0) then some ([],false) else some (x3,true)) r):Ev (fun k=>l0 k x0 x1 x2 x3) r:=evl [] 0 (fun _ _ _=>by kernel_rfl) h
end qffz
namespace qgxz
abbrev P:=Int->Int->Option Int
def f:P:=fun a0 a1=>if (iGt a0 a1) then some a0 else some a1
theorem k {K:Nat} (h:1<=K):(fun a0 a1=>PI Cx K 131 [vi a0,vi a1]:P)=f:=by
 obtain ⟨K,rfl⟩:=zah h
 funext a0 a1
 exact zaf Cx (by kernel_rfl)
end qgxz
namespace qhaz
abbrev P:=Int->Int->Int->Int->Option Bool
def f:P:=fun a0 a1 a2 a3=>(qhpz.f a0 1 1000).bind fun t0 =>
 if t0 then (qhpz.f a1 0 20).bind fun t1 =>
 if t1 then (qhpz.f a2 0 20).bind fun t2 =>
 if t2 then if (iGt (W (a1+a2)) 0) then (qgxz.f a1 a2).bind fun t3 =>
 (qhpz.f a3 (W (t3+1)) 20).bind fun t4 =>
 some t4 else some false else some false else some false else some false
theorem k {K:Nat} (h:2<=K):(fun a0 a1 a2 a3=>PI Cx K 206 [va [ci a0,ci a1,ci a2,ci a3]]:P)=f:=by
 obtain ⟨K,rfl⟩:=zah h
 funext a0 a1 a2 a3
 unfold f
 rw [<- qhpz.k (dk h),<- qgxz.k (dk h)]
 exact zaf Cx (by kernel_rfl)
end qhaz
namespace qftz
def f (k:Fu) (a0:BA):Option ((Int×(Int×(Int×Int)))×Bool):=PI Cx (k 0) 147 [vs a0]
theorem v {a0:BA} {r} (h:Ev (fun k=>(qfnz.f k a0 45).bind fun t0 =>
 if (iGt (sln a0) 16) then some ((0,(0,(0,0))),false) else if ((ln t0) != 4) then some ((0,(0,(0,0))),false) else gd (0 < (ln t0)) <| (qgkz.f k (rd (bs []) t0 0)).bind fun t1 =>
 gd (1 < (ln t0)) <| (qgkz.f k (rd (bs []) t0 1)).bind fun t2 =>
 gd (2 < (ln t0)) <| (qgkz.f k (rd (bs []) t0 2)).bind fun t3 =>
 gd (3 < (ln t0)) <| (qgkz.f k (rd (bs []) t0 3)).bind fun t4 =>
 (qhaz.f t1 t2 t3 t4).bind fun t5 =>
 if (!t5) then some ((0,(0,(0,0))),false) else some ((t1,(t2,(t3,t4))),true)) r):Ev (fun k=>f k a0) r:=evf (fun _ _ h=>by rw [<- qhaz.k (dl h)]; exact zaf Cx (by kernel_rfl)) h
end qftz
namespace qfzz
def f (k:Fu) (a0:List (Int×Int)):Option Bool:=PI Cx (k 0) 207 [vl 88 (.pair i6 i6) a0]
def l0 (k:Fu) (x0:List (Int×Int)) (x1 x2:Int):Option Bool:=zan Cx (k 0) 207 [tt,tt,ff,tt,tt] [k 1] ⟨[(9,vl 88 (.pair i6 i6) x0),(10,vi x1),(11,vi x2)],[],[]⟩
theorem v {a0:List (Int×Int)} {r} (h:Ev (fun k=>(qhpz.f (ln a0) 1 5).bind fun t0 =>
 if (!t0) then some false else l0 k a0 (ln a0) 0) r):Ev (fun k=>f k a0) r:=evf (fun _ _ h=>by rw [<- qhpz.k (dl h)]; exact zaf Cx (by kernel_rfl)) h
theorem v0 {x0:List (Int×Int)} {x1 x2:Int} {r} (h:Ev (fun k=>if (iLt x2 x1) then ix x2 x0 <| (qhpz.f (rd (0,0) x0 x2).1 1 1000).bind fun t0 =>
 if (!t0) then some false else (qhpz.f (rd (0,0) x0 x2).2 1 100).bind fun t1 =>
 if (!t1) then some false else l0 k x0 x1 (W (x2+1)) else some true) r):Ev (fun k=>l0 k x0 x1 x2) r:=evl [] 0 (fun _ _ h=>by rw [<- qhpz.k (dl h)]; kernel_rfl) h
end qfzz
namespace qflz
def f (k:Fu) (a0:BA):Option ((List (Int×Int))×Bool):=PI Cx (k 0) 148 [vs a0]
def l0 (k:Fu) (x0:List BA) (x1 x2:Int) (x3:List (Int×Int)):Option ((List (Int×Int))×Bool):=zan Cx (k 0) 148 [tt,tt,tt,ff,tt,tt] [k 1] ⟨[(4,vf 1000000004000),(12,vl 9 .str x0),(13,vi x1),(14,vi x2)],[(1000000004000,.row 88 (.pair i6 i6) x3 .own)],[]⟩
theorem v {a0:BA} {r} (h:Ev (fun k=>if (iGt (sln a0) 80) then some ([],false) else (qfnz.f k a0 43).bind fun t0 =>
 l0 k t0 (ln t0) 0 []) r):Ev (fun k=>f k a0) r:=evf (fun _ _ _=>zaf Cx (by kernel_rfl)) h
theorem v0 {x0:List BA} {x1 x2:Int} {x3:List (Int×Int)} {r} (h:Ev (fun k=>if (iLt x2 x1) then ix x2 x0 <| (qfnz.f k (rd (bs []) x0 x2) 47).bind fun t0 =>
 if ((ln t0) != 2) then some ([],false) else gd (0 < (ln t0)) <| (qgkz.f k (rd (bs []) t0 0)).bind fun t1 =>
 gd (1 < (ln t0)) <| (qgkz.f k (rd (bs []) t0 1)).bind fun t2 =>
 gd (((lnN x3)+1)<=8796093022208) <| l0 k x0 x1 (W (x2+1)) (x3++[(t1,t2)]) else (qfzz.f k x3).bind fun t0 =>
 if (!t0) then some ([],false) else some (x3,true)) r):Ev (fun k=>l0 k x0 x1 x2 x3) r:=evl [] 0 (fun _ _ _=>by kernel_rfl) h
end qflz
namespace qgez
def f (k:Fu) (a0:List (Int×Int)):Option Bool:=PI Cx (k 0) 208 [vl 155 (.pair i6 i6) a0]
def l0 (k:Fu) (x0:List (Int×Int)) (x1 x2:Int):Option Bool:=zan Cx (k 0) 208 [tt,tt,ff,tt,tt] [k 1] ⟨[(9,vl 155 (.pair i6 i6) x0),(10,vi x1),(11,vi x2)],[],[]⟩
theorem v {a0:List (Int×Int)} {r} (h:Ev (fun k=>(qhpz.f (ln a0) 1 6).bind fun t0 =>
 if (!t0) then some false else l0 k a0 (ln a0) 0) r):Ev (fun k=>f k a0) r:=evf (fun _ _ h=>by rw [<- qhpz.k (dl h)]; exact zaf Cx (by kernel_rfl)) h
theorem v0 {x0:List (Int×Int)} {x1 x2:Int} {r} (h:Ev (fun k=>if (iLt x2 x1) then ix x2 x0 <| (qhpz.f (rd (0,0) x0 x2).1 0 200).bind fun t0 =>
 if (!t0) then some false else (qhpz.f (rd (0,0) x0 x2).2 0 200).bind fun t1 =>
 if (!t1) then some false else l0 k x0 x1 (W (x2+1)) else some true) r):Ev (fun k=>l0 k x0 x1 x2) r:=evl [] 0 (fun _ _ h=>by rw [<- qhpz.k (dl h)]; kernel_rfl) h
end qgez
namespace qfez
def f (k:Fu) (a0:BA):Option ((List (Int×Int))×Bool):=PI Cx (k 0) 149 [vs a0]
def l0 (k:Fu) (x0:List BA) (x1 x2:Int) (x3:List (Int×Int)):Option ((List (Int×Int))×Bool):=zan Cx (k 0) 149 [tt,tt,tt,ff,tt,tt] [k 1] ⟨[(4,vf 1000000004000),(12,vl 9 .str x0),(13,vi x1),(14,vi x2)],[(1000000004000,.row 155 (.pair i6 i6) x3 .own)],[]⟩
theorem v {a0:BA} {r} (h:Ev (fun k=>if (iGt (sln a0) 60) then some ([],false) else (qfnz.f k a0 44).bind fun t0 =>
 l0 k t0 (ln t0) 0 []) r):Ev (fun k=>f k a0) r:=evf (fun _ _ _=>zaf Cx (by kernel_rfl)) h
theorem v0 {x0:List BA} {x1 x2:Int} {x3:List (Int×Int)} {r} (h:Ev (fun k=>if (iLt x2 x1) then ix x2 x0 <| (qfnz.f k (rd (bs []) x0 x2) 43).bind fun t0 =>
 if ((ln t0) != 2) then some ([],false) else gd (0 < (ln t0)) <| (qgkz.f k (rd (bs []) t0 0)).bind fun t1 =>
 gd (1 < (ln t0)) <| (qgkz.f k (rd (bs []) t0 1)).bind fun t2 =>
 gd (((lnN x3)+1)<=8796093022208) <| l0 k x0 x1 (W (x2+1)) (x3++[(t1,t2)]) else (qgez.f k x3).bind fun t0 =>
 if (!t0) then some ([],false) else some (x3,true)) r):Ev (fun k=>l0 k x0 x1 x2 x3) r:=evl [] 0 (fun _ _ _=>by kernel_rfl) h
end qfez
namespace qgbz
def f (k:Fu) (a0:List (Int×Int)) (a1:Int) (a2:BA):Option (BA×(((List (Int×Int))×(Int×((List (Int×Int))×(Int×(Int×(Int×(Int×((List (Int×Int))×((List (Int×Int))×(List Int))))))))))×Bool)):=PI Cx (k 0) 98 [va [.sl 74 (.pair i6 i6) a0,ci a1],vs a2]
def l0 (k:Fu) (x0:List BA) (x1:BA) (x2:List BA) (x3 x4 x5 x6 x7 x8 x9:Int) (x10:List (Int×Int)) (x11:Int) (x12:List (Int×Int)) (x13 x14 x15 x16:Int) (x17 x18:List (Int×Int)) (x19:List Int):Option (BA×(((List (Int×Int))×(Int×((List (Int×Int))×(Int×(Int×(Int×(Int×((List (Int×Int))×((List (Int×Int))×(List Int))))))))))×Bool)):=zan Cx (k 0) 98 [tt,tt,tt,tt,tt,ff,tt,tt] [k 1] ⟨[(5,vp 2000 0),(7,vp 1002000 0),(8,vl 9 .str x0),(9,vs x1),(30,vl 9 .str x2),(31,vi x3),(32,vi x4)],[(2000,.box 124 [.nilsl,ci x5,.nilsl,ci x6,ci x7,ci x8,ci x9,.nilsl,.nilsl,.nilsl]),(1002000,.box 124 [.sl 74 (.pair i6 i6) x10,ci x11,.sl 74 (.pair i6 i6) x12,ci x13,ci x14,ci x15,ci x16,.sl 88 (.pair i6 i6) x17,.sl 155 (.pair i6 i6) x18,.full 2000001002000009]),(2000001002000009,.row 3 i6 x19 .own)],[]⟩
theorem v {a0:List (Int×Int)} {a1:Int} {a2:BA} {r} (h:Ev (fun k=>(qfnz.f k a2 32).bind fun t0 =>
 gd (0 < (ln t0)) <| (qfvz.f (rd (bs []) t0 0)).bind fun t1 =>
 if ((sln t1) != (W ((ln t0)-1))) then some ((bs []),((a0,(a1,([],(0,(0,(0,(0,([],([],[]))))))))),false)) else gd (1<=(ln t0)) <| l0 k t0 t1 (List.drop 1 t0) (ln (List.drop 1 t0)) 0 0 0 0 0 0 a0 a1 [] 0 0 0 0 [] [] []) r):Ev (fun k=>f k a0 a1 a2) r:=evf (fun _ _ h=>by rw [<- qfvz.k (dl h)]; exact zaf Cx (by kernel_rfl)) h
theorem v0 {x0:List BA} {x1:BA} {x2:List BA} {x3 x4 x5 x6 x7 x8 x9:Int} {x10:List (Int×Int)} {x11:Int} {x12:List (Int×Int)} {x13 x14 x15 x16:Int} {x17 x18:List (Int×Int)} {x19:List Int} {r} (h:Ev (fun k=>if (iLt x4 x3) then ix x4 x2 <| gd (0<=x4) <| gd (x4 < (sln x1)) <| if ((bat x1 x4) == 110) then (qgkz.f k (rd (bs []) x2 x4)).bind fun t0 =>
 gd (((lnN x19)+1)<=17592186044416) <| if (!(iGe t0 0)) then some ((bs []),((x10,(x11,(x12,(x13,(x14,(x15,(x16,(x17,(x18,(x19++[t0])))))))))),false)) else l0 k x0 x1 x2 x3 (W (x4+1)) x5 x6 x7 x8 x9 x10 x11 x12 x13 x14 x15 x16 x17 x18 (x19++[t0]) else if ((bat x1 x4) == 119) then (qffz.f k (rd (bs []) x2 x4)).bind fun t0 =>
 if (!t0.2) then some ((bs []),((x10,(x11,(t0.1,(x13,(x14,(x15,(x16,(x17,(x18,x19))))))))),false)) else l0 k x0 x1 x2 x3 (W (x4+1)) x5 x6 x7 x8 x9 x10 x11 t0.1 x13 x14 x15 x16 x17 x18 x19 else if ((bat x1 x4) == 99) then (qftz.f k (rd (bs []) x2 x4)).bind fun t0 =>
 if (!t0.2) then some ((bs []),((x10,(x11,(x12,(t0.1.1,(t0.1.2.1,(t0.1.2.2.1,(t0.1.2.2.2,(x17,(x18,x19))))))))),false)) else l0 k x0 x1 x2 x3 (W (x4+1)) x5 x6 x7 x8 x9 x10 x11 x12 t0.1.1 t0.1.2.1 t0.1.2.2.1 t0.1.2.2.2 x17 x18 x19 else if ((bat x1 x4) == 108) then (qflz.f k (rd (bs []) x2 x4)).bind fun t0 =>
 if (!t0.2) then some ((bs []),((x10,(x11,(x12,(x13,(x14,(x15,(x16,(t0.1,(x18,x19))))))))),false)) else l0 k x0 x1 x2 x3 (W (x4+1)) x5 x6 x7 x8 x9 x10 x11 x12 x13 x14 x15 x16 t0.1 x18 x19 else if ((bat x1 x4) == 118) then (qfez.f k (rd (bs []) x2 x4)).bind fun t0 =>
 if (!t0.2) then some ((bs []),((x10,(x11,(x12,(x13,(x14,(x15,(x16,(x17,(t0.1,x19))))))))),false)) else l0 k x0 x1 x2 x3 (W (x4+1)) x5 x6 x7 x8 x9 x10 x11 x12 x13 x14 x15 x16 x17 t0.1 x19 else some ((bs []),((x10,(x11,(x12,(x13,(x14,(x15,(x16,(x17,(x18,x19))))))))),false)) else gd (0 < (ln x0)) <| some ((rd (bs []) x0 0),((x10,(x11,(x12,(x13,(x14,(x15,(x16,(x17,(x18,x19))))))))),true))) r):Ev (fun k=>l0 k x0 x1 x2 x3 x4 x5 x6 x7 x8 x9 x10 x11 x12 x13 x14 x15 x16 x17 x18 x19) r:=evl [] 0 (fun _ _ _=>by kernel_rfl) h
end qgbz
end
end Go.Proofs.YtdhkgmhdengnkaaGreatDoor.Rs
