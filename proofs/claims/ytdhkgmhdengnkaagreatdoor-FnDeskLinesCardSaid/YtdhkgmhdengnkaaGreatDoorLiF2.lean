/- What functions of the program compute. -/
import Derived.Test.YtdhkgmhdengnkaaGreatDoorLiF1
namespace Go.Proofs.YtdhkgmhdengnkaaGreatDoor.Li
open Go Go.Proofs.YtdhkgmhdengnkaaGreatDoorPi Go.RowKit
set_option maxRecDepth 100000
set_option linter.unusedVariables false
noncomputable section
namespace qaqz
def f (k:Fu) (a0:List (Int×Int)) (a1 a2 a3:Int):Option (List (Int×Int)):=PI Cx (k 0) 298 [.sv (.one (.frow 155 (.pair i6 i6) a0)),vi a1,vi a2,vi a3,.sv (.one (.fn 284 []))]
def l0 (k:Fu) (x0 x1 x2:Int) (x3 x4:Bool) (x5:List (Int×Int)):Option (List (Int×Int)):=zap Cx (k 0) 298 [tt,tt,tt] [k 1] ⟨[(0,vf 9000000000000001),(1,vi x0),(2,vi x1),(3,vi x2),(4,.sv (.one (.fn 284 []))),(10,vb x3),(11,vb x4)],[(9000000000000001,.row 155 (.pair i6 i6) x5 .lent)],[]⟩
theorem v {a0:List (Int×Int)} {a1 a2 a3:Int} {r} (h:Ev (fun k=>l0 k a1 a2 a3 true true a0) r):Ev (fun k=>f k a0 a1 a2 a3) r:=evf (fun _ _ _=>zac Cx (by kernel_rfl)) h
theorem v0 {x0 x1 x2:Int} {x3 x4:Bool} {x5:List (Int×Int)} {r} (h:Ev (fun k=>if (iLe (W (x1-x0)) 12) then (qagz.f k x5 x0 x1).bind fun t0 =>
 some t0 else if (x2 == 0) then (qanz.f k x5 x0 x1).bind fun t0 =>
 some t0 else if (!x3) then (qadz.f k x5 x0 x1).bind fun t0 =>
 (qajz.f k t0 x0 x1).bind fun t1 =>
 if (t1.2.1 == 2) then (qahz.f k t1.2.2 x0 x1).bind fun t2 =>
 if x3 then if x4 then (qaaz.f k t2 x0 x1).bind fun t3 =>
 if t3.1 then some t3.2 else if (iGt x0 0) then ix (W (x0-1)) t3.2 <| ix (W ((W (x1-1))-(W (t1.1-x0)))) t3.2 <| (qbrz.f (rd (0,0) t3.2 (W (x0-1))).1 (rd (0,0) t3.2 (W (x0-1))).2 (rd (0,0) t3.2 (W ((W (x1-1))-(W (t1.1-x0))))).1 (rd (0,0) t3.2 (W ((W (x1-1))-(W (t1.1-x0))))).2).bind fun t4 =>
 if (!(iLt t4 0)) then (qacz.f k t3.2 x0 x1 (W ((W (x1-1))-(W (t1.1-x0))))).bind fun t5 =>
 l0 k t5.1 x1 (W (x2-1)) x3 x4 t5.2 else (qamz.f k t3.2 x0 x1 (W ((W (x1-1))-(W (t1.1-x0))))).bind fun t5 =>
 if (iLt (W (t5.1-x0)) (W (x1-t5.1))) then (f k t5.2.2 x0 t5.1 (W (x2-1))).bind fun t6 =>
 l0 k (W (t5.1+1)) x1 (W (x2-1)) (iGe (W (t5.1-x0)) (W (Int.tdiv (W (x1-x0)) 8))) t5.2.1 t6 else (f k t5.2.2 (W (t5.1+1)) x1 (W (x2-1))).bind fun t6 =>
 l0 k x0 t5.1 (W (x2-1)) (iGe (W (x1-t5.1)) (W (Int.tdiv (W (x1-x0)) 8))) t5.2.1 t6 else (qamz.f k t3.2 x0 x1 (W ((W (x1-1))-(W (t1.1-x0))))).bind fun t4 =>
 if (iLt (W (t4.1-x0)) (W (x1-t4.1))) then (f k t4.2.2 x0 t4.1 (W (x2-1))).bind fun t5 =>
 l0 k (W (t4.1+1)) x1 (W (x2-1)) (iGe (W (t4.1-x0)) (W (Int.tdiv (W (x1-x0)) 8))) t4.2.1 t5 else (f k t4.2.2 (W (t4.1+1)) x1 (W (x2-1))).bind fun t5 =>
 l0 k x0 t4.1 (W (x2-1)) (iGe (W (x1-t4.1)) (W (Int.tdiv (W (x1-x0)) 8))) t4.2.1 t5 else if (iGt x0 0) then ix (W (x0-1)) t2 <| ix (W ((W (x1-1))-(W (t1.1-x0)))) t2 <| (qbrz.f (rd (0,0) t2 (W (x0-1))).1 (rd (0,0) t2 (W (x0-1))).2 (rd (0,0) t2 (W ((W (x1-1))-(W (t1.1-x0))))).1 (rd (0,0) t2 (W ((W (x1-1))-(W (t1.1-x0))))).2).bind fun t3 =>
 if (!(iLt t3 0)) then (qacz.f k t2 x0 x1 (W ((W (x1-1))-(W (t1.1-x0))))).bind fun t4 =>
 l0 k t4.1 x1 (W (x2-1)) x3 x4 t4.2 else (qamz.f k t2 x0 x1 (W ((W (x1-1))-(W (t1.1-x0))))).bind fun t4 =>
 if (iLt (W (t4.1-x0)) (W (x1-t4.1))) then (f k t4.2.2 x0 t4.1 (W (x2-1))).bind fun t5 =>
 l0 k (W (t4.1+1)) x1 (W (x2-1)) (iGe (W (t4.1-x0)) (W (Int.tdiv (W (x1-x0)) 8))) t4.2.1 t5 else (f k t4.2.2 (W (t4.1+1)) x1 (W (x2-1))).bind fun t5 =>
 l0 k x0 t4.1 (W (x2-1)) (iGe (W (x1-t4.1)) (W (Int.tdiv (W (x1-x0)) 8))) t4.2.1 t5 else (qamz.f k t2 x0 x1 (W ((W (x1-1))-(W (t1.1-x0))))).bind fun t3 =>
 if (iLt (W (t3.1-x0)) (W (x1-t3.1))) then (f k t3.2.2 x0 t3.1 (W (x2-1))).bind fun t4 =>
 l0 k (W (t3.1+1)) x1 (W (x2-1)) (iGe (W (t3.1-x0)) (W (Int.tdiv (W (x1-x0)) 8))) t3.2.1 t4 else (f k t3.2.2 (W (t3.1+1)) x1 (W (x2-1))).bind fun t4 =>
 l0 k x0 t3.1 (W (x2-1)) (iGe (W (x1-t3.1)) (W (Int.tdiv (W (x1-x0)) 8))) t3.2.1 t4 else if (iGt x0 0) then ix (W (x0-1)) t2 <| ix (W ((W (x1-1))-(W (t1.1-x0)))) t2 <| (qbrz.f (rd (0,0) t2 (W (x0-1))).1 (rd (0,0) t2 (W (x0-1))).2 (rd (0,0) t2 (W ((W (x1-1))-(W (t1.1-x0))))).1 (rd (0,0) t2 (W ((W (x1-1))-(W (t1.1-x0))))).2).bind fun t3 =>
 if (!(iLt t3 0)) then (qacz.f k t2 x0 x1 (W ((W (x1-1))-(W (t1.1-x0))))).bind fun t4 =>
 l0 k t4.1 x1 (W (x2-1)) x3 x4 t4.2 else (qamz.f k t2 x0 x1 (W ((W (x1-1))-(W (t1.1-x0))))).bind fun t4 =>
 if (iLt (W (t4.1-x0)) (W (x1-t4.1))) then (f k t4.2.2 x0 t4.1 (W (x2-1))).bind fun t5 =>
 l0 k (W (t4.1+1)) x1 (W (x2-1)) (iGe (W (t4.1-x0)) (W (Int.tdiv (W (x1-x0)) 8))) t4.2.1 t5 else (f k t4.2.2 (W (t4.1+1)) x1 (W (x2-1))).bind fun t5 =>
 l0 k x0 t4.1 (W (x2-1)) (iGe (W (x1-t4.1)) (W (Int.tdiv (W (x1-x0)) 8))) t4.2.1 t5 else (qamz.f k t2 x0 x1 (W ((W (x1-1))-(W (t1.1-x0))))).bind fun t3 =>
 if (iLt (W (t3.1-x0)) (W (x1-t3.1))) then (f k t3.2.2 x0 t3.1 (W (x2-1))).bind fun t4 =>
 l0 k (W (t3.1+1)) x1 (W (x2-1)) (iGe (W (t3.1-x0)) (W (Int.tdiv (W (x1-x0)) 8))) t3.2.1 t4 else (f k t3.2.2 (W (t3.1+1)) x1 (W (x2-1))).bind fun t4 =>
 l0 k x0 t3.1 (W (x2-1)) (iGe (W (x1-t3.1)) (W (Int.tdiv (W (x1-x0)) 8))) t3.2.1 t4 else if x3 then if x4 then if (t1.2.1 == 1) then (qaaz.f k t1.2.2 x0 x1).bind fun t2 =>
 if t2.1 then some t2.2 else if (iGt x0 0) then ix (W (x0-1)) t2.2 <| ix t1.1 t2.2 <| (qbrz.f (rd (0,0) t2.2 (W (x0-1))).1 (rd (0,0) t2.2 (W (x0-1))).2 (rd (0,0) t2.2 t1.1).1 (rd (0,0) t2.2 t1.1).2).bind fun t3 =>
 if (!(iLt t3 0)) then (qacz.f k t2.2 x0 x1 t1.1).bind fun t4 =>
 l0 k t4.1 x1 (W (x2-1)) x3 x4 t4.2 else (qamz.f k t2.2 x0 x1 t1.1).bind fun t4 =>
 if (iLt (W (t4.1-x0)) (W (x1-t4.1))) then (f k t4.2.2 x0 t4.1 (W (x2-1))).bind fun t5 =>
 l0 k (W (t4.1+1)) x1 (W (x2-1)) (iGe (W (t4.1-x0)) (W (Int.tdiv (W (x1-x0)) 8))) t4.2.1 t5 else (f k t4.2.2 (W (t4.1+1)) x1 (W (x2-1))).bind fun t5 =>
 l0 k x0 t4.1 (W (x2-1)) (iGe (W (x1-t4.1)) (W (Int.tdiv (W (x1-x0)) 8))) t4.2.1 t5 else (qamz.f k t2.2 x0 x1 t1.1).bind fun t3 =>
 if (iLt (W (t3.1-x0)) (W (x1-t3.1))) then (f k t3.2.2 x0 t3.1 (W (x2-1))).bind fun t4 =>
 l0 k (W (t3.1+1)) x1 (W (x2-1)) (iGe (W (t3.1-x0)) (W (Int.tdiv (W (x1-x0)) 8))) t3.2.1 t4 else (f k t3.2.2 (W (t3.1+1)) x1 (W (x2-1))).bind fun t4 =>
 l0 k x0 t3.1 (W (x2-1)) (iGe (W (x1-t3.1)) (W (Int.tdiv (W (x1-x0)) 8))) t3.2.1 t4 else if (iGt x0 0) then ix (W (x0-1)) t1.2.2 <| ix t1.1 t1.2.2 <| (qbrz.f (rd (0,0) t1.2.2 (W (x0-1))).1 (rd (0,0) t1.2.2 (W (x0-1))).2 (rd (0,0) t1.2.2 t1.1).1 (rd (0,0) t1.2.2 t1.1).2).bind fun t2 =>
 if (!(iLt t2 0)) then (qacz.f k t1.2.2 x0 x1 t1.1).bind fun t3 =>
 l0 k t3.1 x1 (W (x2-1)) x3 x4 t3.2 else (qamz.f k t1.2.2 x0 x1 t1.1).bind fun t3 =>
 if (iLt (W (t3.1-x0)) (W (x1-t3.1))) then (f k t3.2.2 x0 t3.1 (W (x2-1))).bind fun t4 =>
 l0 k (W (t3.1+1)) x1 (W (x2-1)) (iGe (W (t3.1-x0)) (W (Int.tdiv (W (x1-x0)) 8))) t3.2.1 t4 else (f k t3.2.2 (W (t3.1+1)) x1 (W (x2-1))).bind fun t4 =>
 l0 k x0 t3.1 (W (x2-1)) (iGe (W (x1-t3.1)) (W (Int.tdiv (W (x1-x0)) 8))) t3.2.1 t4 else (qamz.f k t1.2.2 x0 x1 t1.1).bind fun t2 =>
 if (iLt (W (t2.1-x0)) (W (x1-t2.1))) then (f k t2.2.2 x0 t2.1 (W (x2-1))).bind fun t3 =>
 l0 k (W (t2.1+1)) x1 (W (x2-1)) (iGe (W (t2.1-x0)) (W (Int.tdiv (W (x1-x0)) 8))) t2.2.1 t3 else (f k t2.2.2 (W (t2.1+1)) x1 (W (x2-1))).bind fun t3 =>
 l0 k x0 t2.1 (W (x2-1)) (iGe (W (x1-t2.1)) (W (Int.tdiv (W (x1-x0)) 8))) t2.2.1 t3 else if (iGt x0 0) then ix (W (x0-1)) t1.2.2 <| ix t1.1 t1.2.2 <| (qbrz.f (rd (0,0) t1.2.2 (W (x0-1))).1 (rd (0,0) t1.2.2 (W (x0-1))).2 (rd (0,0) t1.2.2 t1.1).1 (rd (0,0) t1.2.2 t1.1).2).bind fun t2 =>
 if (!(iLt t2 0)) then (qacz.f k t1.2.2 x0 x1 t1.1).bind fun t3 =>
 l0 k t3.1 x1 (W (x2-1)) x3 x4 t3.2 else (qamz.f k t1.2.2 x0 x1 t1.1).bind fun t3 =>
 if (iLt (W (t3.1-x0)) (W (x1-t3.1))) then (f k t3.2.2 x0 t3.1 (W (x2-1))).bind fun t4 =>
 l0 k (W (t3.1+1)) x1 (W (x2-1)) (iGe (W (t3.1-x0)) (W (Int.tdiv (W (x1-x0)) 8))) t3.2.1 t4 else (f k t3.2.2 (W (t3.1+1)) x1 (W (x2-1))).bind fun t4 =>
 l0 k x0 t3.1 (W (x2-1)) (iGe (W (x1-t3.1)) (W (Int.tdiv (W (x1-x0)) 8))) t3.2.1 t4 else (qamz.f k t1.2.2 x0 x1 t1.1).bind fun t2 =>
 if (iLt (W (t2.1-x0)) (W (x1-t2.1))) then (f k t2.2.2 x0 t2.1 (W (x2-1))).bind fun t3 =>
 l0 k (W (t2.1+1)) x1 (W (x2-1)) (iGe (W (t2.1-x0)) (W (Int.tdiv (W (x1-x0)) 8))) t2.2.1 t3 else (f k t2.2.2 (W (t2.1+1)) x1 (W (x2-1))).bind fun t3 =>
 l0 k x0 t2.1 (W (x2-1)) (iGe (W (x1-t2.1)) (W (Int.tdiv (W (x1-x0)) 8))) t2.2.1 t3 else if (iGt x0 0) then ix (W (x0-1)) t1.2.2 <| ix t1.1 t1.2.2 <| (qbrz.f (rd (0,0) t1.2.2 (W (x0-1))).1 (rd (0,0) t1.2.2 (W (x0-1))).2 (rd (0,0) t1.2.2 t1.1).1 (rd (0,0) t1.2.2 t1.1).2).bind fun t2 =>
 if (!(iLt t2 0)) then (qacz.f k t1.2.2 x0 x1 t1.1).bind fun t3 =>
 l0 k t3.1 x1 (W (x2-1)) x3 x4 t3.2 else (qamz.f k t1.2.2 x0 x1 t1.1).bind fun t3 =>
 if (iLt (W (t3.1-x0)) (W (x1-t3.1))) then (f k t3.2.2 x0 t3.1 (W (x2-1))).bind fun t4 =>
 l0 k (W (t3.1+1)) x1 (W (x2-1)) (iGe (W (t3.1-x0)) (W (Int.tdiv (W (x1-x0)) 8))) t3.2.1 t4 else (f k t3.2.2 (W (t3.1+1)) x1 (W (x2-1))).bind fun t4 =>
 l0 k x0 t3.1 (W (x2-1)) (iGe (W (x1-t3.1)) (W (Int.tdiv (W (x1-x0)) 8))) t3.2.1 t4 else (qamz.f k t1.2.2 x0 x1 t1.1).bind fun t2 =>
 if (iLt (W (t2.1-x0)) (W (x1-t2.1))) then (f k t2.2.2 x0 t2.1 (W (x2-1))).bind fun t3 =>
 l0 k (W (t2.1+1)) x1 (W (x2-1)) (iGe (W (t2.1-x0)) (W (Int.tdiv (W (x1-x0)) 8))) t2.2.1 t3 else (f k t2.2.2 (W (t2.1+1)) x1 (W (x2-1))).bind fun t3 =>
 l0 k x0 t2.1 (W (x2-1)) (iGe (W (x1-t2.1)) (W (Int.tdiv (W (x1-x0)) 8))) t2.2.1 t3 else (qajz.f k x5 x0 x1).bind fun t0 =>
 if (t0.2.1 == 2) then (qahz.f k t0.2.2 x0 x1).bind fun t1 =>
 if x3 then if x4 then (qaaz.f k t1 x0 x1).bind fun t2 =>
 if t2.1 then some t2.2 else if (iGt x0 0) then ix (W (x0-1)) t2.2 <| ix (W ((W (x1-1))-(W (t0.1-x0)))) t2.2 <| (qbrz.f (rd (0,0) t2.2 (W (x0-1))).1 (rd (0,0) t2.2 (W (x0-1))).2 (rd (0,0) t2.2 (W ((W (x1-1))-(W (t0.1-x0))))).1 (rd (0,0) t2.2 (W ((W (x1-1))-(W (t0.1-x0))))).2).bind fun t3 =>
 if (!(iLt t3 0)) then (qacz.f k t2.2 x0 x1 (W ((W (x1-1))-(W (t0.1-x0))))).bind fun t4 =>
 l0 k t4.1 x1 x2 x3 x4 t4.2 else (qamz.f k t2.2 x0 x1 (W ((W (x1-1))-(W (t0.1-x0))))).bind fun t4 =>
 if (iLt (W (t4.1-x0)) (W (x1-t4.1))) then (f k t4.2.2 x0 t4.1 x2).bind fun t5 =>
 l0 k (W (t4.1+1)) x1 x2 (iGe (W (t4.1-x0)) (W (Int.tdiv (W (x1-x0)) 8))) t4.2.1 t5 else (f k t4.2.2 (W (t4.1+1)) x1 x2).bind fun t5 =>
 l0 k x0 t4.1 x2 (iGe (W (x1-t4.1)) (W (Int.tdiv (W (x1-x0)) 8))) t4.2.1 t5 else (qamz.f k t2.2 x0 x1 (W ((W (x1-1))-(W (t0.1-x0))))).bind fun t3 =>
 if (iLt (W (t3.1-x0)) (W (x1-t3.1))) then (f k t3.2.2 x0 t3.1 x2).bind fun t4 =>
 l0 k (W (t3.1+1)) x1 x2 (iGe (W (t3.1-x0)) (W (Int.tdiv (W (x1-x0)) 8))) t3.2.1 t4 else (f k t3.2.2 (W (t3.1+1)) x1 x2).bind fun t4 =>
 l0 k x0 t3.1 x2 (iGe (W (x1-t3.1)) (W (Int.tdiv (W (x1-x0)) 8))) t3.2.1 t4 else if (iGt x0 0) then ix (W (x0-1)) t1 <| ix (W ((W (x1-1))-(W (t0.1-x0)))) t1 <| (qbrz.f (rd (0,0) t1 (W (x0-1))).1 (rd (0,0) t1 (W (x0-1))).2 (rd (0,0) t1 (W ((W (x1-1))-(W (t0.1-x0))))).1 (rd (0,0) t1 (W ((W (x1-1))-(W (t0.1-x0))))).2).bind fun t2 =>
 if (!(iLt t2 0)) then (qacz.f k t1 x0 x1 (W ((W (x1-1))-(W (t0.1-x0))))).bind fun t3 =>
 l0 k t3.1 x1 x2 x3 x4 t3.2 else (qamz.f k t1 x0 x1 (W ((W (x1-1))-(W (t0.1-x0))))).bind fun t3 =>
 if (iLt (W (t3.1-x0)) (W (x1-t3.1))) then (f k t3.2.2 x0 t3.1 x2).bind fun t4 =>
 l0 k (W (t3.1+1)) x1 x2 (iGe (W (t3.1-x0)) (W (Int.tdiv (W (x1-x0)) 8))) t3.2.1 t4 else (f k t3.2.2 (W (t3.1+1)) x1 x2).bind fun t4 =>
 l0 k x0 t3.1 x2 (iGe (W (x1-t3.1)) (W (Int.tdiv (W (x1-x0)) 8))) t3.2.1 t4 else (qamz.f k t1 x0 x1 (W ((W (x1-1))-(W (t0.1-x0))))).bind fun t2 =>
 if (iLt (W (t2.1-x0)) (W (x1-t2.1))) then (f k t2.2.2 x0 t2.1 x2).bind fun t3 =>
 l0 k (W (t2.1+1)) x1 x2 (iGe (W (t2.1-x0)) (W (Int.tdiv (W (x1-x0)) 8))) t2.2.1 t3 else (f k t2.2.2 (W (t2.1+1)) x1 x2).bind fun t3 =>
 l0 k x0 t2.1 x2 (iGe (W (x1-t2.1)) (W (Int.tdiv (W (x1-x0)) 8))) t2.2.1 t3 else if (iGt x0 0) then ix (W (x0-1)) t1 <| ix (W ((W (x1-1))-(W (t0.1-x0)))) t1 <| (qbrz.f (rd (0,0) t1 (W (x0-1))).1 (rd (0,0) t1 (W (x0-1))).2 (rd (0,0) t1 (W ((W (x1-1))-(W (t0.1-x0))))).1 (rd (0,0) t1 (W ((W (x1-1))-(W (t0.1-x0))))).2).bind fun t2 =>
 if (!(iLt t2 0)) then (qacz.f k t1 x0 x1 (W ((W (x1-1))-(W (t0.1-x0))))).bind fun t3 =>
 l0 k t3.1 x1 x2 x3 x4 t3.2 else (qamz.f k t1 x0 x1 (W ((W (x1-1))-(W (t0.1-x0))))).bind fun t3 =>
 if (iLt (W (t3.1-x0)) (W (x1-t3.1))) then (f k t3.2.2 x0 t3.1 x2).bind fun t4 =>
 l0 k (W (t3.1+1)) x1 x2 (iGe (W (t3.1-x0)) (W (Int.tdiv (W (x1-x0)) 8))) t3.2.1 t4 else (f k t3.2.2 (W (t3.1+1)) x1 x2).bind fun t4 =>
 l0 k x0 t3.1 x2 (iGe (W (x1-t3.1)) (W (Int.tdiv (W (x1-x0)) 8))) t3.2.1 t4 else (qamz.f k t1 x0 x1 (W ((W (x1-1))-(W (t0.1-x0))))).bind fun t2 =>
 if (iLt (W (t2.1-x0)) (W (x1-t2.1))) then (f k t2.2.2 x0 t2.1 x2).bind fun t3 =>
 l0 k (W (t2.1+1)) x1 x2 (iGe (W (t2.1-x0)) (W (Int.tdiv (W (x1-x0)) 8))) t2.2.1 t3 else (f k t2.2.2 (W (t2.1+1)) x1 x2).bind fun t3 =>
 l0 k x0 t2.1 x2 (iGe (W (x1-t2.1)) (W (Int.tdiv (W (x1-x0)) 8))) t2.2.1 t3 else if x3 then if x4 then if (t0.2.1 == 1) then (qaaz.f k t0.2.2 x0 x1).bind fun t1 =>
 if t1.1 then some t1.2 else if (iGt x0 0) then ix (W (x0-1)) t1.2 <| ix t0.1 t1.2 <| (qbrz.f (rd (0,0) t1.2 (W (x0-1))).1 (rd (0,0) t1.2 (W (x0-1))).2 (rd (0,0) t1.2 t0.1).1 (rd (0,0) t1.2 t0.1).2).bind fun t2 =>
 if (!(iLt t2 0)) then (qacz.f k t1.2 x0 x1 t0.1).bind fun t3 =>
 l0 k t3.1 x1 x2 x3 x4 t3.2 else (qamz.f k t1.2 x0 x1 t0.1).bind fun t3 =>
 if (iLt (W (t3.1-x0)) (W (x1-t3.1))) then (f k t3.2.2 x0 t3.1 x2).bind fun t4 =>
 l0 k (W (t3.1+1)) x1 x2 (iGe (W (t3.1-x0)) (W (Int.tdiv (W (x1-x0)) 8))) t3.2.1 t4 else (f k t3.2.2 (W (t3.1+1)) x1 x2).bind fun t4 =>
 l0 k x0 t3.1 x2 (iGe (W (x1-t3.1)) (W (Int.tdiv (W (x1-x0)) 8))) t3.2.1 t4 else (qamz.f k t1.2 x0 x1 t0.1).bind fun t2 =>
 if (iLt (W (t2.1-x0)) (W (x1-t2.1))) then (f k t2.2.2 x0 t2.1 x2).bind fun t3 =>
 l0 k (W (t2.1+1)) x1 x2 (iGe (W (t2.1-x0)) (W (Int.tdiv (W (x1-x0)) 8))) t2.2.1 t3 else (f k t2.2.2 (W (t2.1+1)) x1 x2).bind fun t3 =>
 l0 k x0 t2.1 x2 (iGe (W (x1-t2.1)) (W (Int.tdiv (W (x1-x0)) 8))) t2.2.1 t3 else if (iGt x0 0) then ix (W (x0-1)) t0.2.2 <| ix t0.1 t0.2.2 <| (qbrz.f (rd (0,0) t0.2.2 (W (x0-1))).1 (rd (0,0) t0.2.2 (W (x0-1))).2 (rd (0,0) t0.2.2 t0.1).1 (rd (0,0) t0.2.2 t0.1).2).bind fun t1 =>
 if (!(iLt t1 0)) then (qacz.f k t0.2.2 x0 x1 t0.1).bind fun t2 =>
 l0 k t2.1 x1 x2 x3 x4 t2.2 else (qamz.f k t0.2.2 x0 x1 t0.1).bind fun t2 =>
 if (iLt (W (t2.1-x0)) (W (x1-t2.1))) then (f k t2.2.2 x0 t2.1 x2).bind fun t3 =>
 l0 k (W (t2.1+1)) x1 x2 (iGe (W (t2.1-x0)) (W (Int.tdiv (W (x1-x0)) 8))) t2.2.1 t3 else (f k t2.2.2 (W (t2.1+1)) x1 x2).bind fun t3 =>
 l0 k x0 t2.1 x2 (iGe (W (x1-t2.1)) (W (Int.tdiv (W (x1-x0)) 8))) t2.2.1 t3 else (qamz.f k t0.2.2 x0 x1 t0.1).bind fun t1 =>
 if (iLt (W (t1.1-x0)) (W (x1-t1.1))) then (f k t1.2.2 x0 t1.1 x2).bind fun t2 =>
 l0 k (W (t1.1+1)) x1 x2 (iGe (W (t1.1-x0)) (W (Int.tdiv (W (x1-x0)) 8))) t1.2.1 t2 else (f k t1.2.2 (W (t1.1+1)) x1 x2).bind fun t2 =>
 l0 k x0 t1.1 x2 (iGe (W (x1-t1.1)) (W (Int.tdiv (W (x1-x0)) 8))) t1.2.1 t2 else if (iGt x0 0) then ix (W (x0-1)) t0.2.2 <| ix t0.1 t0.2.2 <| (qbrz.f (rd (0,0) t0.2.2 (W (x0-1))).1 (rd (0,0) t0.2.2 (W (x0-1))).2 (rd (0,0) t0.2.2 t0.1).1 (rd (0,0) t0.2.2 t0.1).2).bind fun t1 =>
 if (!(iLt t1 0)) then (qacz.f k t0.2.2 x0 x1 t0.1).bind fun t2 =>
 l0 k t2.1 x1 x2 x3 x4 t2.2 else (qamz.f k t0.2.2 x0 x1 t0.1).bind fun t2 =>
 if (iLt (W (t2.1-x0)) (W (x1-t2.1))) then (f k t2.2.2 x0 t2.1 x2).bind fun t3 =>
 l0 k (W (t2.1+1)) x1 x2 (iGe (W (t2.1-x0)) (W (Int.tdiv (W (x1-x0)) 8))) t2.2.1 t3 else (f k t2.2.2 (W (t2.1+1)) x1 x2).bind fun t3 =>
 l0 k x0 t2.1 x2 (iGe (W (x1-t2.1)) (W (Int.tdiv (W (x1-x0)) 8))) t2.2.1 t3 else (qamz.f k t0.2.2 x0 x1 t0.1).bind fun t1 =>
 if (iLt (W (t1.1-x0)) (W (x1-t1.1))) then (f k t1.2.2 x0 t1.1 x2).bind fun t2 =>
 l0 k (W (t1.1+1)) x1 x2 (iGe (W (t1.1-x0)) (W (Int.tdiv (W (x1-x0)) 8))) t1.2.1 t2 else (f k t1.2.2 (W (t1.1+1)) x1 x2).bind fun t2 =>
 l0 k x0 t1.1 x2 (iGe (W (x1-t1.1)) (W (Int.tdiv (W (x1-x0)) 8))) t1.2.1 t2 else if (iGt x0 0) then ix (W (x0-1)) t0.2.2 <| ix t0.1 t0.2.2 <| (qbrz.f (rd (0,0) t0.2.2 (W (x0-1))).1 (rd (0,0) t0.2.2 (W (x0-1))).2 (rd (0,0) t0.2.2 t0.1).1 (rd (0,0) t0.2.2 t0.1).2).bind fun t1 =>
 if (!(iLt t1 0)) then (qacz.f k t0.2.2 x0 x1 t0.1).bind fun t2 =>
 l0 k t2.1 x1 x2 x3 x4 t2.2 else (qamz.f k t0.2.2 x0 x1 t0.1).bind fun t2 =>
 if (iLt (W (t2.1-x0)) (W (x1-t2.1))) then (f k t2.2.2 x0 t2.1 x2).bind fun t3 =>
 l0 k (W (t2.1+1)) x1 x2 (iGe (W (t2.1-x0)) (W (Int.tdiv (W (x1-x0)) 8))) t2.2.1 t3 else (f k t2.2.2 (W (t2.1+1)) x1 x2).bind fun t3 =>
 l0 k x0 t2.1 x2 (iGe (W (x1-t2.1)) (W (Int.tdiv (W (x1-x0)) 8))) t2.2.1 t3 else (qamz.f k t0.2.2 x0 x1 t0.1).bind fun t1 =>
 if (iLt (W (t1.1-x0)) (W (x1-t1.1))) then (f k t1.2.2 x0 t1.1 x2).bind fun t2 =>
 l0 k (W (t1.1+1)) x1 x2 (iGe (W (t1.1-x0)) (W (Int.tdiv (W (x1-x0)) 8))) t1.2.1 t2 else (f k t1.2.2 (W (t1.1+1)) x1 x2).bind fun t2 =>
 l0 k x0 t1.1 x2 (iGe (W (x1-t1.1)) (W (Int.tdiv (W (x1-x0)) 8))) t1.2.1 t2) r):Ev (fun k=>l0 k x0 x1 x2 x3 x4 x5) r:=evl [] 0 (fun _ _ h=>by rw [<- qbrz.k (dl h)]; kernel_rfl) h
end qaqz
namespace qaiz
def f (k:Fu) (a0:List (Int×Int)):Option (List (Int×Int)):=PI Cx (k 0) 283 [.sv (.one (.frow 155 (.pair i6 i6) a0)),.sv (.one (.fn 284 []))]
theorem v {a0:List (Int×Int)} {r} (h:Ev (fun k=>(qfiz.f (IntKind.wrap .u64 (ln a0))).bind fun t0 =>
 (qaqz.f k a0 0 (ln a0) t0).bind fun t1 =>
 some t1) r):Ev (fun k=>f k a0) r:=evf (fun _ _ h=>by rw [<- qfiz.k (dl h)]; exact zac Cx (by kernel_rfl)) h
end qaiz
namespace qckz
def f (k:Fu) (a0:List (Int×Int)):Option ((List Int)×Bool):=PI Cx (k 0) 256 [vl 155 (.pair i6 i6) a0]
def l0 (k:Fu) (x0 x1 x2:Int) (x3:List Int) (x4:List (Int×Int)):Option ((List Int)×Bool):=zap Cx (k 0) 256 [tt,tt,tt,tt,tt,tt,ff,tt,tt] [k 1] ⟨[(5,vf 1000000005000),(6,vi x0),(16,vf 1000000016000),(17,vi x1),(18,vi x2)],[(1000000005000,.row 3 i6 x3 .own),(1000000016000,.row 155 (.pair i6 i6) x4 .own)],[]⟩
theorem v {a0:List (Int×Int)} {r} (h:Ev (fun k=>(qelz.f k a0).bind fun t0 =>
 if (!t0) then some ([],false) else (qbiz.f a0).bind fun t1 =>
 (qaiz.f k t1).bind fun t2 =>
 l0 k (-1) (ln t2) 0 [] t2) r):Ev (fun k=>f k a0) r:=evf (fun _ _ h=>by rw [<- qbiz.k (dl h)]; exact zac Cx (by kernel_rfl)) h
theorem v0 {x0 x1 x2:Int} {x3:List Int} {x4:List (Int×Int)} {r} (h:Ev (fun k=>if (iLt x2 x1) then ix x2 x4 <| if (iGt (rd (0,0) x4 x2).1 x0) then gd (((lnN x3)+1)<=17592186044416) <| l0 k (W ((rd (0,0) x4 x2).1+(rd (0,0) x4 x2).2)) x1 (W (x2+1)) (x3++[(W ((rd (0,0) x4 x2).1+(rd (0,0) x4 x2).2))]) x4 else l0 k x0 x1 (W (x2+1)) x3 x4 else some (x3,true)) r):Ev (fun k=>l0 k x0 x1 x2 x3 x4) r:=evl [] 0 (fun _ _ _=>by kernel_rfl) h
end qckz
namespace qekz
abbrev P:=Int->Option Bool
def f:P:=fun a0=>(qgoz.f a0 1 200).bind fun t0 =>
 some t0
theorem k {K:Nat} (h:2<=K):(fun a0=>PI Cx K 184 [vi a0]:P)=f:=by
 obtain ⟨K,rfl⟩:=zae h
 funext a0
 unfold f
 rw [<- qgoz.k (dk h)]
 exact zac Cx (by kernel_rfl)
end qekz
namespace qfhz
abbrev P:=Int->Int->Int->Option Bool
def f:P:=fun a0 a1 a2=>(qekz.f a0).bind fun t0 =>
 if t0 then (qgoz.f a1 0 200).bind fun t1 =>
 if t1 then (qgoz.f a2 0 200).bind fun t2 =>
 some t2 else some false else some false
theorem k {K:Nat} (h:3<=K):(fun a0 a1 a2=>PI Cx K 117 [vi a0,vi a1,vi a2]:P)=f:=by
 obtain ⟨K,rfl⟩:=zae h
 funext a0 a1 a2
 unfold f
 rw [<- qekz.k (dk h),<- qgoz.k (dk h)]
 exact zac Cx (by kernel_rfl)
end qfhz
namespace qbzz
def f (k:Fu) (a0 a1 a2:Int):Option Int:=PI Cx (k 0) 118 [vi a0,vi a1,vi a2]
def l0 (k:Fu) (x0 x1 x2 x3 x4 x5:Int):Option Int:=zap Cx (k 0) 118 [tt,tt,ff,tt,tt] [k 1] ⟨[(0,vi x0),(1,vi x1),(2,vi x2),(7,vi x3),(10,vi x4),(11,vi x5)],[],[]⟩
def l1 (k:Fu) (x0 x1 x2 x3 x4 x5 x6 x7 x8:Int):Option Int:=zap Cx (k 0) 118 [tt,tt,ff,tt,tt,tt,tt,tt,ff,tt,tt,tt,tt] [k 1,k 2] ⟨[(0,vi x0),(1,vi x1),(2,vi x2),(7,vi x3),(8,vi x4),(10,vi x5),(11,vi x6),(14,vi x7),(15,vi x8)],[],[]⟩
theorem v {a0 a1 a2:Int} {r} (h:Ev (fun k=>l0 k a0 a1 a2 0 a0 0) r):Ev (fun k=>f k a0 a1 a2) r:=evf (fun _ _ _=>zac Cx (by kernel_rfl)) h
theorem v0 {x0 x1 x2 x3 x4 x5:Int} {r} (h:Ev (fun k=>if (iLt x5 x4) then l1 k x0 x1 x2 x3 x5 x4 x5 x0 0 else some x3) r):Ev (fun k=>l0 k x0 x1 x2 x3 x4 x5) r:=evl [] 0 (fun _ _ _=>by kernel_rfl) h
theorem v1 {x0 x1 x2 x3 x4 x5 x6 x7 x8:Int} {r} (h:Ev (fun k=>if (iLt x8 x7) then if (iLe x8 (W (x4+x1))) then if (iLe x4 (W (x8+x2))) then l1 k x0 x1 x2 (W (x3+1)) x4 x5 x6 x7 (W (x8+1)) else l1 k x0 x1 x2 x3 x4 x5 x6 x7 (W (x8+1)) else l1 k x0 x1 x2 x3 x4 x5 x6 x7 (W (x8+1)) else l0 k x0 x1 x2 x3 x5 (W (x6+1))) r):Ev (fun k=>l1 k x0 x1 x2 x3 x4 x5 x6 x7 x8) r:=evl [1] 1 (fun _ _ _=>by kernel_rfl) h
end qbzz
namespace qboz
def f (k:Fu) (a0 a1 a2:Int):Option (Int×(Int×Bool)):=PI Cx (k 0) 66 [vi a0,vi a1,vi a2]
theorem v {a0 a1 a2:Int} {r} (h:Ev (fun k=>(qfhz.f a0 a1 a2).bind fun t0 =>
 if (!t0) then some (0,(0,false)) else (qbzz.f k a0 a1 a2).bind fun t1 =>
 (qfoz.f k t1 (W (a0*a0))).bind fun t2 =>
 some t2) r):Ev (fun k=>f k a0 a1 a2) r:=evf (fun _ _ h=>by rw [<- qfhz.k (dl h)]; exact zac Cx (by kernel_rfl)) h
end qboz
namespace qerz
def f (k:Fu) (a0:BA) (a1:List (Int×Int)) (a2 a3 a4 a5:Int) (a6 a7:List (Int×Int)) (a8:List Int):Option (BA×(Bool×((List (Int×Int))×(Int×(Int×(Int×(Int×((List (Int×Int))×((List (Int×Int))×(List Int)))))))))):=PI Cx (k 0) 204 [vs a0,va [.sl 74 (.pair i6 i6) a1,ci a2,ci a3,ci a4,ci a5,.sl 88 (.pair i6 i6) a6,.sl 155 (.pair i6 i6) a7,.frow 3 i6 a8]]
theorem v {a0:BA} {a1:List (Int×Int)} {a2 a3 a4 a5:Int} {a6 a7:List (Int×Int)} {a8:List Int} {r} (h:Ev (fun k=>if (seq a0 (bs [100,111,103])) then (qdsz.f k a2 a3 a4 a5).bind fun t0 =>
 (qikz.f k t0.1 t0.2.1 t0.2.2).bind fun t1 =>
 some (t1.1,(t1.2,(a1,(a2,(a3,(a4,(a5,(a6,(a7,a8))))))))) else if (seq a0 (bs [114,117,110])) then (qdez.f k a2 a3 a4 a5).bind fun t0 =>
 (qikz.f k t0.1 t0.2.1 t0.2.2).bind fun t1 =>
 some (t1.1,(t1.2,(a1,(a2,(a3,(a4,(a5,(a6,(a7,a8))))))))) else if (seq a0 (bs [97,112,97,114,116])) then gd (0 < (ln a8)) <| (qbtz.f k a2 a3 a4 a5 (rd 0 a8 0)).bind fun t0 =>
 (qikz.f k t0.1 t0.2.1 t0.2.2).bind fun t1 =>
 some (t1.1,(t1.2,(a1,(a2,(a3,(a4,(a5,(a6,(a7,a8))))))))) else if (seq a0 (bs [109,101,97,110])) then (qeqz.f k a6).bind fun t0 =>
 (qikz.f k t0.1 t0.2.1 t0.2.2).bind fun t1 =>
 some (t1.1,(t1.2,(a1,(a2,(a3,(a4,(a5,(a6,(a7,a8))))))))) else if (seq a0 (bs [116,105,109,101])) then (qdoz.f k a6).bind fun t0 =>
 (qikz.f k t0.1 t0.2.1 t0.2.2).bind fun t1 =>
 some (t1.1,(t1.2,(a1,(a2,(a3,(a4,(a5,(a6,(a7,a8))))))))) else if (seq a0 (bs [110,101,101,100])) then gd (0 < (ln a8)) <| gd (1 < (ln a8)) <| (qcxz.f k a6 (rd 0 a8 0) (rd 0 a8 1)).bind fun t0 =>
 (qikz.f k t0.1 t0.2.1 t0.2.2).bind fun t1 =>
 some (t1.1,(t1.2,(a1,(a2,(a3,(a4,(a5,(a6,(a7,a8))))))))) else if (seq a0 (bs [118,105,115,105,116,115])) then (qcdz.f k a7).bind fun t0 =>
 (qifz.f k t0.1 (bs [44]) (bs [32]) t0.2).bind fun t1 =>
 some (t1.1,(t1.2,(a1,(a2,(a3,(a4,(a5,(a6,(a7,a8))))))))) else if (seq a0 (bs [103,117,105,100,101,115])) then (qckz.f k a7).bind fun t0 =>
 (qfwz.f k t0.1 t0.2).bind fun t1 =>
 some (t1.1,(t1.2,(a1,(a2,(a3,(a4,(a5,(a6,(a7,a8))))))))) else gd (0 < (ln a8)) <| gd (1 < (ln a8)) <| gd (2 < (ln a8)) <| (qboz.f k (rd 0 a8 0) (rd 0 a8 1) (rd 0 a8 2)).bind fun t0 =>
 (qikz.f k t0.1 t0.2.1 t0.2.2).bind fun t1 =>
 some (t1.1,(t1.2,(a1,(a2,(a3,(a4,(a5,(a6,(a7,a8)))))))))) r):Ev (fun k=>f k a0 a1 a2 a3 a4 a5 a6 a7 a8) r:=evf (fun _ _ _=>zac Cx (by kernel_rfl)) h
end qerz
namespace qfkz
def f (k:Fu) (a0:List (Int×Int)) (a1:Int) (a2:BA) (a3:List (Int×Int)) (a4 a5 a6 a7:Int) (a8 a9:List (Int×Int)) (a10:List Int):Option (BA×(Bool×((List (Int×Int))×(Int×(Int×(Int×(Int×((List (Int×Int))×((List (Int×Int))×(List Int)))))))))):=PI Cx (k 0) 142 [va [.sl 74 (.pair i6 i6) a0,ci a1],vs a2,va [.sl 74 (.pair i6 i6) a3,ci a4,ci a5,ci a6,ci a7,.sl 88 (.pair i6 i6) a8,.sl 155 (.pair i6 i6) a9,.frow 3 i6 a10]]
theorem v {a0:List (Int×Int)} {a1:Int} {a2:BA} {a3:List (Int×Int)} {a4 a5 a6 a7:Int} {a8 a9:List (Int×Int)} {a10:List Int} {r} (h:Ev (fun k=>if (seq a2 (bs [112,97,105,114,115])) then (qbxz.f k a0).bind fun t0 =>
 (qhjz.f t0.1 t0.2).bind fun t1 =>
 some (t1.1,(t1.2,(a3,(a4,(a5,(a6,(a7,(a8,(a9,a10))))))))) else if (seq a2 (bs [102,105,114,115,116])) then (qdbz.f k a0).bind fun t0 =>
 if (!t0.2) then some ((bs []),(false,(a3,(a4,(a5,(a6,(a7,(a8,(a9,a10))))))))) else if ((ln t0.1) == 0) then some ((bs []),(false,(a3,(a4,(a5,(a6,(a7,(a8,(a9,a10))))))))) else gd (0 < (ln t0.1)) <| gd (2<=(ln (rd [] t0.1 0))) <| (qfwz.f k (List.take 2 (rd [] t0.1 0)) true).bind fun t1 =>
 some (t1.1,(t1.2,(a3,(a4,(a5,(a6,(a7,(a8,(a9,a10))))))))) else if (seq a2 (bs [108,101,97,100])) then (qeiz.f k a0).bind fun t0 =>
 (qfwz.f k t0.1 t0.2).bind fun t1 =>
 some (t1.1,(t1.2,(a3,(a4,(a5,(a6,(a7,(a8,(a9,a10))))))))) else if (seq a2 (bs [108,97,115,116])) then (qenz.f k a0).bind fun t0 =>
 (qfwz.f k t0.1 t0.2).bind fun t1 =>
 some (t1.1,(t1.2,(a3,(a4,(a5,(a6,(a7,(a8,(a9,a10))))))))) else if (seq a2 (bs [97,116])) then gd (0 < (ln a10)) <| (qeoz.f k a0 (rd 0 a10 0) 1).bind fun t0 =>
 (qfwz.f k t0.1 t0.2).bind fun t1 =>
 some (t1.1,(t1.2,(a3,(a4,(a5,(a6,(a7,(a8,(a9,a10))))))))) else if (seq a2 (bs [115,116,97,114,116])) then (qeez.f k a1 a0).bind fun t0 =>
 (qikz.f k t0.1 t0.2.1 t0.2.2).bind fun t1 =>
 some (t1.1,(t1.2,(a3,(a4,(a5,(a6,(a7,(a8,(a9,a10))))))))) else if (seq a2 (bs [109,101,101,116])) then gd (0 < (ln a10)) <| (qbsz.f a0 a1 (rd 0 a10 0)).bind fun t0 =>
 if (!t0) then some ((bs []),(false,(a3,(a4,(a5,(a6,(a7,(a8,(a9,a10))))))))) else gd (1 < (ln a10)) <| (qbsz.f a0 a1 (rd 0 a10 1)).bind fun t1 =>
 if (!t1) then some ((bs []),(false,(a3,(a4,(a5,(a6,(a7,(a8,(a9,a10))))))))) else gd (0 < (ln a10)) <| ix (rd 0 a10 0) a0 <| gd (1 < (ln a10)) <| ix (rd 0 a10 1) a0 <| (qcez.f k a0 a1 a2 (rd (0,0) a0 (rd 0 a10 0)).1 (rd (0,0) a0 (rd 0 a10 0)).2 (rd (0,0) a0 (rd 0 a10 1)).1 (rd (0,0) a0 (rd 0 a10 1)).2).bind fun t2 =>
 some (t2.1,(t2.2,(a3,(a4,(a5,(a6,(a7,(a8,(a9,a10))))))))) else if (seq a2 (bs [119,104,101,114,101])) then gd (0 < (ln a10)) <| (qbsz.f a0 a1 (rd 0 a10 0)).bind fun t0 =>
 if (!t0) then some ((bs []),(false,(a3,(a4,(a5,(a6,(a7,(a8,(a9,a10))))))))) else gd (1 < (ln a10)) <| (qbsz.f a0 a1 (rd 0 a10 1)).bind fun t1 =>
 if (!t1) then some ((bs []),(false,(a3,(a4,(a5,(a6,(a7,(a8,(a9,a10))))))))) else gd (0 < (ln a10)) <| ix (rd 0 a10 0) a0 <| gd (1 < (ln a10)) <| ix (rd 0 a10 1) a0 <| (qcez.f k a0 a1 a2 (rd (0,0) a0 (rd 0 a10 0)).1 (rd (0,0) a0 (rd 0 a10 0)).2 (rd (0,0) a0 (rd 0 a10 1)).1 (rd (0,0) a0 (rd 0 a10 1)).2).bind fun t2 =>
 some (t2.1,(t2.2,(a3,(a4,(a5,(a6,(a7,(a8,(a9,a10))))))))) else if (seq a2 (bs [97,114,111,117,110,100])) then gd (0 < (ln a10)) <| (qbsz.f a0 a1 (rd 0 a10 0)).bind fun t0 =>
 if (!t0) then some ((bs []),(false,(a3,(a4,(a5,(a6,(a7,(a8,(a9,a10))))))))) else gd (1 < (ln a10)) <| (qbsz.f a0 a1 (rd 0 a10 1)).bind fun t1 =>
 if (!t1) then some ((bs []),(false,(a3,(a4,(a5,(a6,(a7,(a8,(a9,a10))))))))) else gd (0 < (ln a10)) <| ix (rd 0 a10 0) a0 <| gd (1 < (ln a10)) <| ix (rd 0 a10 1) a0 <| (qcez.f k a0 a1 a2 (rd (0,0) a0 (rd 0 a10 0)).1 (rd (0,0) a0 (rd 0 a10 0)).2 (rd (0,0) a0 (rd 0 a10 1)).1 (rd (0,0) a0 (rd 0 a10 1)).2).bind fun t2 =>
 some (t2.1,(t2.2,(a3,(a4,(a5,(a6,(a7,(a8,(a9,a10))))))))) else if (seq a2 (bs [103,97,112])) then gd (0 < (ln a10)) <| (qbsz.f a0 a1 (rd 0 a10 0)).bind fun t0 =>
 if (!t0) then some ((bs []),(false,(a3,(a4,(a5,(a6,(a7,(a8,(a9,a10))))))))) else gd (1 < (ln a10)) <| (qbsz.f a0 a1 (rd 0 a10 1)).bind fun t1 =>
 if (!t1) then some ((bs []),(false,(a3,(a4,(a5,(a6,(a7,(a8,(a9,a10))))))))) else gd (0 < (ln a10)) <| ix (rd 0 a10 0) a0 <| gd (1 < (ln a10)) <| ix (rd 0 a10 1) a0 <| (qcez.f k a0 a1 a2 (rd (0,0) a0 (rd 0 a10 0)).1 (rd (0,0) a0 (rd 0 a10 0)).2 (rd (0,0) a0 (rd 0 a10 1)).1 (rd (0,0) a0 (rd 0 a10 1)).2).bind fun t2 =>
 some (t2.1,(t2.2,(a3,(a4,(a5,(a6,(a7,(a8,(a9,a10))))))))) else if (seq a2 (bs [112,108,97,99,101,115])) then gd (0 < (ln a10)) <| (qbsz.f a0 a1 (rd 0 a10 0)).bind fun t0 =>
 if (!t0) then some ((bs []),(false,(a3,(a4,(a5,(a6,(a7,(a8,(a9,a10))))))))) else gd (1 < (ln a10)) <| (qbsz.f a0 a1 (rd 0 a10 1)).bind fun t1 =>
 if (!t1) then some ((bs []),(false,(a3,(a4,(a5,(a6,(a7,(a8,(a9,a10))))))))) else gd (0 < (ln a10)) <| ix (rd 0 a10 0) a0 <| gd (1 < (ln a10)) <| ix (rd 0 a10 1) a0 <| (qcez.f k a0 a1 a2 (rd (0,0) a0 (rd 0 a10 0)).1 (rd (0,0) a0 (rd 0 a10 0)).2 (rd (0,0) a0 (rd 0 a10 1)).1 (rd (0,0) a0 (rd 0 a10 1)).2).bind fun t2 =>
 some (t2.1,(t2.2,(a3,(a4,(a5,(a6,(a7,(a8,(a9,a10))))))))) else (qerz.f k a2 a3 a4 a5 a6 a7 a8 a9 a10).bind fun t0 =>
 some t0) r):Ev (fun k=>f k a0 a1 a2 a3 a4 a5 a6 a7 a8 a9 a10) r:=evf (fun _ _ h=>by rw [<- qhjz.k (dl h),<- qbsz.k (dl h)]; exact zac Cx (by kernel_rfl)) h
end qfkz
namespace qdmz
def f (k:Fu) (a0:List (Int×Int)) (a1:Int) (a2:BA) (a3:List (Int×Int)) (a4 a5 a6 a7:Int) (a8 a9:List (Int×Int)) (a10:List Int):Option (((List (Int×Int))×Int)×(BA×(Bool×((List (Int×Int))×(Int×(Int×(Int×(Int×((List (Int×Int))×((List (Int×Int))×(List Int))))))))))):=PI Cx (k 0) 95 [va [.sl 74 (.pair i6 i6) a0,ci a1],vs a2,va [.sl 74 (.pair i6 i6) a3,ci a4,ci a5,ci a6,ci a7,.sl 88 (.pair i6 i6) a8,.sl 155 (.pair i6 i6) a9,.frow 3 i6 a10]]
theorem v {a0:List (Int×Int)} {a1:Int} {a2:BA} {a3:List (Int×Int)} {a4 a5 a6 a7:Int} {a8 a9:List (Int×Int)} {a10:List Int} {r} (h:Ev (fun k=>if (seq a2 (bs [119,97,108,107,101,114,115])) then (qglz.f k a3 a1).bind fun t0 =>
 if (!t0) then some ((a3,a1),((bs []),(false,(a3,(a4,(a5,(a6,(a7,(a8,(a9,a10)))))))))) else (qcwz.f k a3).bind fun t1 =>
 some ((a3,a1),(t1.1,(t1.2,(a3,(a4,(a5,(a6,(a7,(a8,(a9,a10)))))))))) else if (seq a2 (bs [114,105,110,103])) then gd (0 < (ln a10)) <| (qglz.f k a0 (rd 0 a10 0)).bind fun t0 =>
 if (!t0) then some ((a0,(rd 0 a10 0)),((bs []),(false,(a3,(a4,(a5,(a6,(a7,(a8,(a9,a10)))))))))) else (qcwz.f k a0).bind fun t1 =>
 some ((a0,(rd 0 a10 0)),(t1.1,(t1.2,(a3,(a4,(a5,(a6,(a7,(a8,(a9,a10)))))))))) else if (seq a2 (bs [116,117,114,110])) then gd (0 < (ln a10)) <| (qbsz.f a0 a1 (rd 0 a10 0)).bind fun t0 =>
 if (!t0) then some ((a0,a1),((bs []),(false,(a3,(a4,(a5,(a6,(a7,(a8,(a9,a10)))))))))) else (qbfz.f a0).bind fun t1 =>
 gd (0 < (ln a10)) <| ix (rd 0 a10 0) t1 <| ix (rd 0 a10 0) t1 <| (qglz.f k (List.set t1 (Int.toNat (rd 0 a10 0)) ((rd (0,0) t1 (rd 0 a10 0)).1,(W ((rd (0,0) t1 (rd 0 a10 0)).2*(-1))))) a1).bind fun t2 =>
 if (!t2) then some (((List.set t1 (Int.toNat (rd 0 a10 0)) ((rd (0,0) t1 (rd 0 a10 0)).1,(W ((rd (0,0) t1 (rd 0 a10 0)).2*(-1))))),a1),((bs []),(false,(a3,(a4,(a5,(a6,(a7,(a8,(a9,a10)))))))))) else (qcwz.f k (List.set t1 (Int.toNat (rd 0 a10 0)) ((rd (0,0) t1 (rd 0 a10 0)).1,(W ((rd (0,0) t1 (rd 0 a10 0)).2*(-1)))))).bind fun t3 =>
 some (((List.set t1 (Int.toNat (rd 0 a10 0)) ((rd (0,0) t1 (rd 0 a10 0)).1,(W ((rd (0,0) t1 (rd 0 a10 0)).2*(-1))))),a1),(t3.1,(t3.2,(a3,(a4,(a5,(a6,(a7,(a8,(a9,a10)))))))))) else if (seq a2 (bs [97,100,100])) then (qbez.f k [a0,a3]).bind fun t0 =>
 (qglz.f k t0 a1).bind fun t1 =>
 if (!t1) then some ((t0,a1),((bs []),(false,(a3,(a4,(a5,(a6,(a7,(a8,(a9,a10)))))))))) else (qcwz.f k t0).bind fun t2 =>
 some ((t0,a1),(t2.1,(t2.2,(a3,(a4,(a5,(a6,(a7,(a8,(a9,a10)))))))))) else if (seq a2 (bs [100,114,111,112])) then gd (0 < (ln a10)) <| (qbsz.f a0 a1 (rd 0 a10 0)).bind fun t0 =>
 if (!t0) then some ((a0,a1),((bs []),(false,(a3,(a4,(a5,(a6,(a7,(a8,(a9,a10)))))))))) else (qbfz.f a0).bind fun t1 =>
 gd (0 < (ln a10)) <| gd (0 < (ln a10)) <| ix (rd 0 a10 0) t1 <| gd ((W ((rd 0 a10 0)+1))=((rd 0 a10 0)+1)) <| gd ((ln t1)<=5000000000000) <| (qglz.f k ((List.take (Int.toNat (rd 0 a10 0)) t1)++(List.drop (Int.toNat (W ((rd 0 a10 0)+1))) t1)) a1).bind fun t2 =>
 if (!t2) then some ((((List.take (Int.toNat (rd 0 a10 0)) t1)++(List.drop (Int.toNat (W ((rd 0 a10 0)+1))) t1)),a1),((bs []),(false,(a3,(a4,(a5,(a6,(a7,(a8,(a9,a10)))))))))) else (qcwz.f k ((List.take (Int.toNat (rd 0 a10 0)) t1)++(List.drop (Int.toNat (W ((rd 0 a10 0)+1))) t1))).bind fun t3 =>
 some ((((List.take (Int.toNat (rd 0 a10 0)) t1)++(List.drop (Int.toNat (W ((rd 0 a10 0)+1))) t1)),a1),(t3.1,(t3.2,(a3,(a4,(a5,(a6,(a7,(a8,(a9,a10)))))))))) else if (seq a2 (bs [115,104,111,119])) then (qglz.f k a0 a1).bind fun t0 =>
 if (!t0) then some ((a0,a1),((bs []),(false,(a3,(a4,(a5,(a6,(a7,(a8,(a9,a10)))))))))) else (qcwz.f k a0).bind fun t1 =>
 some ((a0,a1),(t1.1,(t1.2,(a3,(a4,(a5,(a6,(a7,(a8,(a9,a10)))))))))) else (qfkz.f k a0 a1 a2 a3 a4 a5 a6 a7 a8 a9 a10).bind fun t0 =>
 some ((a0,a1),t0)) r):Ev (fun k=>f k a0 a1 a2 a3 a4 a5 a6 a7 a8 a9 a10) r:=evf (fun _ _ h=>by rw [<- qbsz.k (dl h),<- qbfz.k (dl h)]; exact zac Cx (by kernel_rfl)) h
end qdmz
namespace qfaz
def f (k:Fu) (a0:List (Int×Int)) (a1:Int) (a2:BA):Option (((List (Int×Int))×Int)×BA):=PI Cx (k 0) 48 [va [.sl 74 (.pair i6 i6) a0,ci a1],vs a2]
def l0 (k:Fu) (x0:List BA) (x1:BA) (x2:List BA) (x3 x4:Int) (x5:List (Int×Int)) (x6 x7:Int) (x8:List (Int×Int)) (x9 x10 x11 x12:Int) (x13 x14:List (Int×Int)) (x15:List Int):Option (((List (Int×Int))×Int)×BA):=zap Cx (k 0) 48 [tt,tt,tt,tt,tt,ff,tt,tt] [k 1] ⟨[(2,vp 0 0),(4,vp 1000 0),(6,vl 9 .str x0),(7,vs x1),(9,vp 5000000 0),(35,vl 9 .str x2),(36,vi x3),(37,vi x4)],[(0,.box 24 [.sl 74 (.pair i6 i6) x5,ci x6]),(1000,.box 24 [.nilsl,ci x7]),(5000000,.box 118 [.sl 74 (.pair i6 i6) x8,ci x9,ci x10,ci x11,ci x12,.sl 88 (.pair i6 i6) x13,.sl 155 (.pair i6 i6) x14,.full 2000005000000007]),(2000005000000007,.row 3 i6 x15 .come)],[]⟩
theorem v {a0:List (Int×Int)} {a1:Int} {a2:BA} {r} (h:Ev (fun k=>(qffz.f a2 (bs [32])).bind fun t0 =>
 gd (0 < (ln t0)) <| (qfmz.f (rd (bs []) t0 0)).bind fun t1 =>
 if (!t1.2) then some ((a0,a1),(bs [119,104,97,116])) else if ((sln t1.1) != (W ((ln t0)-1))) then some ((a0,a1),(bs [119,104,97,116])) else gd (1<=(ln t0)) <| l0 k t0 t1.1 (List.drop 1 t0) (ln (List.drop 1 t0)) 0 a0 a1 0 [] 0 0 0 0 [] [] []) r):Ev (fun k=>f k a0 a1 a2) r:=evf (fun _ _ h=>by rw [<- qffz.k (dl h),<- qfmz.k (dl h)]; exact zac Cx (by kernel_rfl)) h
theorem v0 {x0:List BA} {x1:BA} {x2:List BA} {x3 x4:Int} {x5:List (Int×Int)} {x6 x7:Int} {x8:List (Int×Int)} {x9 x10 x11 x12:Int} {x13 x14:List (Int×Int)} {x15:List Int} {r} (h:Ev (fun k=>if (iLt x4 x3) then ix x4 x2 <| gd (0<=x4) <| gd (x4 < (sln x1)) <| (qbyz.f k x8 x9 x10 x11 x12 x13 x14 x15 (bat x1 x4) (rd (bs []) x2 x4)).bind fun t0 =>
 if (!t0.1) then some ((x5,x6),(bs [119,104,97,116])) else l0 k x0 x1 x2 x3 (W (x4+1)) x5 x6 x7 t0.2.1 t0.2.2.1 t0.2.2.2.1 t0.2.2.2.2.1 t0.2.2.2.2.2.1 t0.2.2.2.2.2.2.1 t0.2.2.2.2.2.2.2.1 t0.2.2.2.2.2.2.2.2 else gd (0 < (ln x0)) <| (qdmz.f k x5 x6 (rd (bs []) x0 0) x8 x9 x10 x11 x12 x13 x14 x15).bind fun t0 =>
 if (!t0.2.2.1) then some ((x5,x6),(bs [110,111])) else some (t0.1,t0.2.1)) r):Ev (fun k=>l0 k x0 x1 x2 x3 x4 x5 x6 x7 x8 x9 x10 x11 x12 x13 x14 x15) r:=evl [] 0 (fun _ _ _=>by kernel_rfl) h
end qfaz
namespace qimz
abbrev P:=List Int->List Int->Option Bool
def f:P:=fun a0 a1=>if (iGt (ln a0) 1048576) then some true else some (iGt (ln a1) (W (1048576-(ln a0))))
theorem k {K:Nat} (h:1<=K):(fun a0 a1=>PI Cx K 15 [vl 5 (.int .u8) a0,vl 5 (.int .u8) a1]:P)=f:=by
 obtain ⟨K,rfl⟩:=zae h
 funext a0 a1
 exact zac Cx (by kernel_rfl)
end qimz
namespace qdzz
abbrev P:=List Int->Int->Int->Option (Int×((List Int)×(Int×Int)))
def f:P:=fun a0 a1 a2=>if (iLt a1 (ln a0)) then ix a1 a0 <| if (iLe (W (a1+1)) (ln a0)) then some ((W (rd 0 a0 a1)),(a0,((W (a1+1)),(IntKind.wrap .u64 ((IntKind.wrap .u64 ((IntKind.wrap .u64 (a2*6364136223846793005))+(IntKind.wrap .u64 (W (rd 0 a0 a1)))))+1442695040888963407))))) else some ((W (Go.bits .and .u64 (ishr (IntKind.wrap .u64 ((IntKind.wrap .u64 ((IntKind.wrap .u64 (a2*6364136223846793005))+(IntKind.wrap .u64 (W (rd 0 a0 a1)))))+1442695040888963407)) 40) 255)),(a0,((W (a1+1)),(IntKind.wrap .u64 ((IntKind.wrap .u64 ((IntKind.wrap .u64 (a2*6364136223846793005))+(IntKind.wrap .u64 (W (rd 0 a0 a1)))))+1442695040888963407))))) else if (iLe (W (a1+1)) (ln a0)) then some (0,(a0,((W (a1+1)),(IntKind.wrap .u64 ((IntKind.wrap .u64 ((IntKind.wrap .u64 (a2*6364136223846793005))+0))+1442695040888963407))))) else some ((W (Go.bits .and .u64 (ishr (IntKind.wrap .u64 ((IntKind.wrap .u64 ((IntKind.wrap .u64 (a2*6364136223846793005))+0))+1442695040888963407)) 40) 255)),(a0,((W (a1+1)),(IntKind.wrap .u64 ((IntKind.wrap .u64 ((IntKind.wrap .u64 (a2*6364136223846793005))+0))+1442695040888963407)))))
theorem k {K:Nat} (h:1<=K):(fun a0 a1 a2=>PI Cx K 129 [va [.sl 5 (.int .u8) a0,ci a1,.int .u64 a2]]:P)=f:=by
 obtain ⟨K,rfl⟩:=zae h
 funext a0 a1 a2
 exact zac Cx (by kernel_rfl)
end qdzz
namespace qdpz
abbrev P:=List Int->Int->Int->Int->Option (Int×((List Int)×(Int×Int)))
def f:P:=fun a0 a1 a2 a3=>if (iLe a3 1) then some (0,(a0,(a1,a2))) else (qdzz.f a0 a1 a2).bind fun t0 =>
 if (iGt a3 200) then (qdzz.f t0.2.1 t0.2.2.1 t0.2.2.2).bind fun t1 =>
 if a3=0 then none else some ((Int.tmod (W ((W (t0.1*256))+t1.1)) a3),t1.2) else if a3=0 then none else some ((Int.tmod t0.1 a3),t0.2)
theorem k {K:Nat} (h:2<=K):(fun a0 a1 a2 a3=>PI Cx K 80 [va [.sl 5 (.int .u8) a0,ci a1,.int .u64 a2],vi a3]:P)=f:=by
 obtain ⟨K,rfl⟩:=zae h
 funext a0 a1 a2 a3
 unfold f
 rw [<- qdzz.k (dk h)]
 exact zac Cx (by kernel_rfl)
end qdpz
namespace qblz
abbrev P:=List Int->Int->Int->Option ((Int×Int)×((List Int)×(Int×Int)))
def f:P:=fun a0 a1 a2=>(qdpz.f a0 a1 a2 25).bind fun t0 =>
 (qdpz.f t0.2.1 t0.2.2.1 t0.2.2.2 11).bind fun t1 =>
 some (((W (t0.1-8)),(W (t1.1-5))),t1.2)
theorem k {K:Nat} (h:3<=K):(fun a0 a1 a2=>PI Cx K 81 [va [.sl 5 (.int .u8) a0,ci a1,.int .u64 a2]]:P)=f:=by
 obtain ⟨K,rfl⟩:=zae h
 funext a0 a1 a2
 unfold f
 rw [<- qdpz.k (dk h)]
 exact zac Cx (by kernel_rfl)
end qblz
namespace qdkz
abbrev P:=List Int->Int->Int->List Int->Option (Int×((List Int)×(Int×Int)))
def f:P:=fun a0 a1 a2 a3=>(qdpz.f a0 a1 a2 (ln a3)).bind fun t0 =>
 ix t0.1 a3 <| some ((rd 0 a3 t0.1),t0.2)
theorem k {K:Nat} (h:3<=K):(fun a0 a1 a2 a3=>PI Cx K 119 [va [.sl 5 (.int .u8) a0,ci a1,.int .u64 a2],vl 3 i6 a3]:P)=f:=by
 obtain ⟨K,rfl⟩:=zae h
 funext a0 a1 a2 a3
 unfold f
 rw [<- qdpz.k (dk h)]
 exact zac Cx (by kernel_rfl)
end qdkz
namespace qclz
abbrev P:=List Int->Int->Int->Option ((Int×Int)×((List Int)×(Int×Int)))
def f:P:=fun a0 a1 a2=>(qblz.f a0 a1 a2).bind fun t0 =>
 (qdpz.f t0.2.1 t0.2.2.1 t0.2.2.2 20).bind fun t1 =>
 if (t1.1 == 0) then (qdkz.f t1.2.1 t1.2.2.1 t1.2.2.2 [(-1000),1000,1001,(-4611686018427387904)]).bind fun t2 =>
 some ((t2.1,t0.1.2),t2.2) else if (t1.1 == 1) then (qdkz.f t1.2.1 t1.2.2.1 t1.2.2.2 [(-100),100,101,4611686018427387904]).bind fun t2 =>
 some ((t0.1.1,t2.1),t2.2) else some (t0.1,t1.2)
theorem k {K:Nat} (h:4<=K):(fun a0 a1 a2=>PI Cx K 128 [va [.sl 5 (.int .u8) a0,ci a1,.int .u64 a2]]:P)=f:=by
 obtain ⟨K,rfl⟩:=zae h
 funext a0 a1 a2
 unfold f
 rw [<- qblz.k (dk h),<- qdpz.k (dk h),<- qdkz.k (dk h)]
 exact zac Cx (by kernel_rfl)
end qclz
namespace qbvz
def f (k:Fu) (a0:List Int) (a1 a2:Int):Option ((List (Int×Int))×((List Int)×(Int×Int))):=PI Cx (k 0) 78 [va [.sl 5 (.int .u8) a0,ci a1,.int .u64 a2]]
def l0 (k:Fu) (x0:Int) (x1:List Int) (x2 x3:Int) (x4:List (Int×Int)):Option ((List (Int×Int))×((List Int)×(Int×Int))):=zap Cx (k 0) 78 [tt,tt,ff,tt,tt] [k 1] ⟨[(0,vp 9000000000000000 0),(3,vf 1000000003000),(4,vi x0)],[(9000000000000000,.box 67 [.sl 5 (.int .u8) x1,ci x2,.int .u64 x3]),(1000000003000,.row 74 (.pair i6 i6) x4 .own)],[]⟩
def l1 (k:Fu) (x0:List Int) (x1 x2:Int) (x3:List (Int×Int)):Option ((List (Int×Int))×((List Int)×(Int×Int))):=zap Cx (k 0) 78 [tt,tt,tt,ff,tt,tt,tt,tt,tt,ff,tt] [k 2] ⟨[(0,vp 9000000000000000 0),(3,vf 1000000003000)],[(9000000000000000,.box 67 [.sl 5 (.int .u8) x0,ci x1,.int .u64 x2]),(1000000003000,.row 74 (.pair i6 i6) x3 .own)],[]⟩
theorem v {a0:List Int} {a1 a2:Int} {r} (h:Ev (fun k=>(qdpz.f a0 a1 a2 5).bind fun t0 =>
 l0 k (W (1+t0.1)) t0.2.1 t0.2.2.1 t0.2.2.2 []) r):Ev (fun k=>f k a0 a1 a2) r:=evf (fun _ _ h=>by rw [<- qdpz.k (dl h)]; exact zac Cx (by kernel_rfl)) h
theorem v0 {x0:Int} {x1:List Int} {x2 x3:Int} {x4:List (Int×Int)} {r} (h:Ev (fun k=>if (iGt x0 0) then (qclz.f x1 x2 x3).bind fun t0 =>
 gd (((lnN x4)+1)<=8796093022208) <| l0 k (W (x0-1)) t0.2.1 t0.2.2.1 t0.2.2.2 (x4++[t0.1]) else (qdpz.f x1 x2 x3 20).bind fun t0 =>
 if (t0.1 == 0) then some ([],t0.2) else if (t0.1 == 1) then l1 k t0.2.1 t0.2.2.1 t0.2.2.2 x4 else if (t0.1 == 2) then gd (0 < (ln x4)) <| gd (((lnN x4)+1)<=8796093022208) <| some ((x4++[(rd (0,0) x4 0)]),t0.2) else if (t0.1 == 3) then gd (0 < (ln x4)) <| gd (((lnN x4)+1)<=8796093022208) <| some ((x4++[(rd (0,0) x4 0)]),t0.2) else some (x4,t0.2)) r):Ev (fun k=>l0 k x0 x1 x2 x3 x4) r:=evl [] 0 (fun _ _ h=>by rw [<- qclz.k (dl h),<- qdpz.k (dl h)]; kernel_rfl) h
theorem v1 {x0:List Int} {x1 x2:Int} {x3:List (Int×Int)} {r} (h:Ev (fun k=>(qdpz.f x0 x1 x2 2).bind fun t0 =>
 if (iLt (ln x3) (W (8+t0.1))) then (qblz.f t0.2.1 t0.2.2.1 t0.2.2.2).bind fun t1 =>
 gd (((lnN x3)+1)<=8796093022208) <| l1 k t1.2.1 t1.2.2.1 t1.2.2.2 (x3++[t1.1]) else some (x3,t0.2)) r):Ev (fun k=>l1 k x0 x1 x2 x3) r:=evl [] 1 (fun _ _ h=>by rw [<- qdpz.k (dl h),<- qblz.k (dl h)]; kernel_rfl) h
end qbvz
namespace qcoz
abbrev P:=List Int->Int->Int->Option (Int×((List Int)×(Int×Int)))
def f:P:=fun a0 a1 a2=>(qdkz.f a0 a1 a2 [1,2,5,6,10,12,12,30,1000,1001,0,(-1)]).bind fun t0 =>
 some t0
theorem k {K:Nat} (h:4<=K):(fun a0 a1 a2=>PI Cx K 79 [va [.sl 5 (.int .u8) a0,ci a1,.int .u64 a2]]:P)=f:=by
 obtain ⟨K,rfl⟩:=zae h
 funext a0 a1 a2
 unfold f
 rw [<- qdkz.k (dk h)]
 exact zac Cx (by kernel_rfl)
end qcoz
namespace qdqz
def f (k:Fu) (a0:List Int) (a1 a2:Int):Option (((List (Int×Int))×Int)×((List Int)×(Int×Int))):=PI Cx (k 0) 44 [va [.sl 5 (.int .u8) a0,ci a1,.int .u64 a2]]
theorem v {a0:List Int} {a1 a2:Int} {r} (h:Ev (fun k=>(qbvz.f k a0 a1 a2).bind fun t0 =>
 (qcoz.f t0.2.1 t0.2.2.1 t0.2.2.2).bind fun t1 =>
 some ((t0.1,t1.1),t1.2)) r):Ev (fun k=>f k a0 a1 a2) r:=evf (fun _ _ h=>by rw [<- qcoz.k (dl h)]; exact zac Cx (by kernel_rfl)) h
end qdqz
namespace qeuz
abbrev P:=List Int->Int->Int->Int->Option (Bool×((List Int)×(Int×Int)))
def f:P:=fun a0 a1 a2 a3=>(qdpz.f a0 a1 a2 a3).bind fun t0 =>
 some ((t0.1 == 0),t0.2)
theorem k {K:Nat} (h:3<=K):(fun a0 a1 a2 a3=>PI Cx K 45 [va [.sl 5 (.int .u8) a0,ci a1,.int .u64 a2],vi a3]:P)=f:=by
 obtain ⟨K,rfl⟩:=zae h
 funext a0 a1 a2 a3
 unfold f
 rw [<- qdpz.k (dk h)]
 exact zac Cx (by kernel_rfl)
end qeuz
namespace qihz
def f (k:Fu) (a0:Int):Option BA:=PI Cx (k 0) 84 [vi a0]
theorem v {a0:Int} {r} (h:Ev (fun k=>if (iLt a0 10) then some (bytesOf [(IntKind.wrap .u8 (W (48+a0)))]) else (f k (W (Int.tdiv a0 10))).bind fun t0 =>
 gd (((ByteArray.size t0)+(ByteArray.size (bytesOf [(IntKind.wrap .u8 (W (48+(Int.tmod a0 10))))])))<=maxLen) <| some (t0++(bytesOf [(IntKind.wrap .u8 (W (48+(Int.tmod a0 10))))]))) r):Ev (fun k=>f k a0) r:=evf (fun _ _ _=>zac Cx (by kernel_rfl)) h
end qihz
namespace qiiz
def f (k:Fu) (a0:Int):Option BA:=PI Cx (k 0) 130 [vi a0]
theorem v {a0:Int} {r} (h:Ev (fun k=>if (iLt a0 0) then (qihz.f k (W (0-a0))).bind fun t0 =>
 gd ((1+(ByteArray.size t0))<=maxLen) <| some ((bs [45])++t0) else (qihz.f k a0).bind fun t0 =>
 some t0) r):Ev (fun k=>f k a0) r:=evf (fun _ _ _=>zac Cx (by kernel_rfl)) h
end qiiz
namespace qhbz
def f (k:Fu) (a0:List (Int×Int)):Option BA:=PI Cx (k 0) 82 [vl 74 (.pair i6 i6) a0]
def l0 (k:Fu) (x0:BA) (x1:List (Int×Int)) (x2 x3:Int):Option BA:=zap Cx (k 0) 82 [tt,tt,ff,tt,tt] [k 1] ⟨[(3,vs x0),(6,vl 74 (.pair i6 i6) x1),(7,vi x2),(8,vi x3)],[],[]⟩
theorem v {a0:List (Int×Int)} {r} (h:Ev (fun k=>l0 k (bs []) a0 (ln a0) 0) r):Ev (fun k=>f k a0) r:=evf (fun _ _ _=>zac Cx (by kernel_rfl)) h
theorem v0 {x0:BA} {x1:List (Int×Int)} {x2 x3:Int} {r} (h:Ev (fun k=>if (iLt x3 x2) then ix x3 x1 <| if (iGt x3 0) then gd (((ByteArray.size x0)+1)<=maxLen) <| (qiiz.f k (rd (0,0) x1 x3).1).bind fun t0 =>
 gd (((ByteArray.size t0)+1)<=maxLen) <| (qiiz.f k (rd (0,0) x1 x3).2).bind fun t1 =>
 gd (((ByteArray.size (t0++(bs [58])))+(ByteArray.size t1))<=maxLen) <| gd (((ByteArray.size (x0++(bs [44])))+(ByteArray.size ((t0++(bs [58]))++t1)))<=maxLen) <| l0 k ((x0++(bs [44]))++((t0++(bs [58]))++t1)) x1 x2 (W (x3+1)) else (qiiz.f k (rd (0,0) x1 x3).1).bind fun t0 =>
 gd (((ByteArray.size t0)+1)<=maxLen) <| (qiiz.f k (rd (0,0) x1 x3).2).bind fun t1 =>
 gd (((ByteArray.size (t0++(bs [58])))+(ByteArray.size t1))<=maxLen) <| gd (((ByteArray.size x0)+(ByteArray.size ((t0++(bs [58]))++t1)))<=maxLen) <| l0 k (x0++((t0++(bs [58]))++t1)) x1 x2 (W (x3+1)) else some x0) r):Ev (fun k=>l0 k x0 x1 x2 x3) r:=evl [] 0 (fun _ _ _=>by kernel_rfl) h
end qhbz
namespace qewz
abbrev P:=List Int->Int->Int->List BA->Option (BA×((List Int)×(Int×Int)))
def f:P:=fun a0 a1 a2 a3=>(qdpz.f a0 a1 a2 (ln a3)).bind fun t0 =>
 ix t0.1 a3 <| some ((rd (bs []) a3 t0.1),t0.2)
theorem k {K:Nat} (h:3<=K):(fun a0 a1 a2 a3=>PI Cx K 83 [va [.sl 5 (.int .u8) a0,ci a1,.int .u64 a2],vl 9 .str a3]:P)=f:=by
 obtain ⟨K,rfl⟩:=zae h
 funext a0 a1 a2 a3
 unfold f
 rw [<- qdpz.k (dk h)]
 exact zac Cx (by kernel_rfl)
end qewz
namespace qgvz
abbrev P:=Int->Int->Option Int
def f:P:=fun a0 a1=>if (iGt a0 a1) then some a0 else some a1
theorem k {K:Nat} (h:1<=K):(fun a0 a1=>PI Cx K 131 [vi a0,vi a1]:P)=f:=by
 obtain ⟨K,rfl⟩:=zae h
 funext a0 a1
 exact zac Cx (by kernel_rfl)
end qgvz
namespace qbmz
abbrev P:=List Int->Int->Int->Option ((Int×(Int×(Int×Int)))×((List Int)×(Int×Int)))
def f:P:=fun a0 a1 a2=>(qdpz.f a0 a1 a2 60).bind fun t0 =>
 (qdpz.f t0.2.1 t0.2.2.1 t0.2.2.2 5).bind fun t1 =>
 (qdpz.f t1.2.1 t1.2.2.1 t1.2.2.2 5).bind fun t2 =>
 if ((W (t1.1+t2.1)) == 0) then (qgvz.f 1 t2.1).bind fun t3 =>
 (qdpz.f t2.2.1 t2.2.2.1 t2.2.2.2 5).bind fun t4 =>
 some (((W (1+t0.1)),(1,(t2.1,(W ((W (t3+1))+t4.1))))),t4.2) else (qgvz.f t1.1 t2.1).bind fun t3 =>
 (qdpz.f t2.2.1 t2.2.2.1 t2.2.2.2 5).bind fun t4 =>
 some (((W (1+t0.1)),(t1.1,(t2.1,(W ((W (t3+1))+t4.1))))),t4.2)
theorem k {K:Nat} (h:3<=K):(fun a0 a1 a2=>PI Cx K 86 [va [.sl 5 (.int .u8) a0,ci a1,.int .u64 a2]]:P)=f:=by
 obtain ⟨K,rfl⟩:=zae h
 funext a0 a1 a2
 unfold f
 rw [<- qdpz.k (dk h),<- qgvz.k (dk h)]
 exact zac Cx (by kernel_rfl)
end qbmz
namespace qhsz
def f (k:Fu) (a0 a1 a2 a3:Int):Option BA:=PI Cx (k 0) 85 [va [ci a0,ci a1,ci a2,ci a3]]
theorem v {a0 a1 a2 a3:Int} {r} (h:Ev (fun k=>(qihz.f k a0).bind fun t0 =>
 gd (((ByteArray.size t0)+1)<=maxLen) <| (qihz.f k a1).bind fun t1 =>
 gd (((ByteArray.size (t0++(bs [45])))+(ByteArray.size t1))<=maxLen) <| gd (((ByteArray.size ((t0++(bs [45]))++t1))+1)<=maxLen) <| (qihz.f k a2).bind fun t2 =>
 gd (((ByteArray.size (((t0++(bs [45]))++t1)++(bs [45])))+(ByteArray.size t2))<=maxLen) <| gd (((ByteArray.size ((((t0++(bs [45]))++t1)++(bs [45]))++t2))+1)<=maxLen) <| (qihz.f k a3).bind fun t3 =>
 gd (((ByteArray.size (((((t0++(bs [45]))++t1)++(bs [45]))++t2)++(bs [45])))+(ByteArray.size t3))<=maxLen) <| some ((((((t0++(bs [45]))++t1)++(bs [45]))++t2)++(bs [45]))++t3)) r):Ev (fun k=>f k a0 a1 a2 a3) r:=evf (fun _ _ _=>zac Cx (by kernel_rfl)) h
end qhsz
namespace qbpz
def f (k:Fu) (a0:List Int) (a1 a2:Int):Option ((List (Int×Int))×((List Int)×(Int×Int))):=PI Cx (k 0) 88 [va [.sl 5 (.int .u8) a0,ci a1,.int .u64 a2]]
def l0 (k:Fu) (x0:Int) (x1:List Int) (x2 x3:Int) (x4:List (Int×Int)):Option ((List (Int×Int))×((List Int)×(Int×Int))):=zap Cx (k 0) 88 [tt,tt,ff,tt,tt] [k 1] ⟨[(0,vp 9000000000000000 0),(3,vf 1000000003000),(4,vi x0)],[(9000000000000000,.box 67 [.sl 5 (.int .u8) x1,ci x2,.int .u64 x3]),(1000000003000,.row 88 (.pair i6 i6) x4 .own)],[]⟩
theorem v {a0:List Int} {a1 a2:Int} {r} (h:Ev (fun k=>(qdpz.f a0 a1 a2 4).bind fun t0 =>
 l0 k (W (1+t0.1)) t0.2.1 t0.2.2.1 t0.2.2.2 []) r):Ev (fun k=>f k a0 a1 a2) r:=evf (fun _ _ h=>by rw [<- qdpz.k (dl h)]; exact zac Cx (by kernel_rfl)) h
theorem v0 {x0:Int} {x1:List Int} {x2 x3:Int} {x4:List (Int×Int)} {r} (h:Ev (fun k=>if (iGt x0 0) then (qdpz.f x1 x2 x3 60).bind fun t0 =>
 (qdpz.f t0.2.1 t0.2.2.1 t0.2.2.2 12).bind fun t1 =>
 gd (((lnN x4)+1)<=8796093022208) <| l0 k (W (x0-1)) t1.2.1 t1.2.2.1 t1.2.2.2 (x4++[((W (1+t0.1)),(W (1+t1.1)))]) else some (x4,(x1,(x2,x3)))) r):Ev (fun k=>l0 k x0 x1 x2 x3 x4) r:=evl [] 0 (fun _ _ h=>by rw [<- qdpz.k (dl h)]; kernel_rfl) h
end qbpz
namespace qhfz
def f (k:Fu) (a0:List (Int×Int)):Option BA:=PI Cx (k 0) 87 [vl 88 (.pair i6 i6) a0]
def l0 (k:Fu) (x0:BA) (x1:List (Int×Int)) (x2 x3:Int):Option BA:=zap Cx (k 0) 87 [tt,tt,ff,tt,tt] [k 1] ⟨[(3,vs x0),(6,vl 88 (.pair i6 i6) x1),(7,vi x2),(8,vi x3)],[],[]⟩
theorem v {a0:List (Int×Int)} {r} (h:Ev (fun k=>l0 k (bs []) a0 (ln a0) 0) r):Ev (fun k=>f k a0) r:=evf (fun _ _ _=>zac Cx (by kernel_rfl)) h
theorem v0 {x0:BA} {x1:List (Int×Int)} {x2 x3:Int} {r} (h:Ev (fun k=>if (iLt x3 x2) then ix x3 x1 <| if (iGt x3 0) then gd (((ByteArray.size x0)+1)<=maxLen) <| (qihz.f k (rd (0,0) x1 x3).1).bind fun t0 =>
 gd (((ByteArray.size t0)+1)<=maxLen) <| (qihz.f k (rd (0,0) x1 x3).2).bind fun t1 =>
 gd (((ByteArray.size (t0++(bs [47])))+(ByteArray.size t1))<=maxLen) <| gd (((ByteArray.size (x0++(bs [43])))+(ByteArray.size ((t0++(bs [47]))++t1)))<=maxLen) <| l0 k ((x0++(bs [43]))++((t0++(bs [47]))++t1)) x1 x2 (W (x3+1)) else (qihz.f k (rd (0,0) x1 x3).1).bind fun t0 =>
 gd (((ByteArray.size t0)+1)<=maxLen) <| (qihz.f k (rd (0,0) x1 x3).2).bind fun t1 =>
 gd (((ByteArray.size (t0++(bs [47])))+(ByteArray.size t1))<=maxLen) <| gd (((ByteArray.size x0)+(ByteArray.size ((t0++(bs [47]))++t1)))<=maxLen) <| l0 k (x0++((t0++(bs [47]))++t1)) x1 x2 (W (x3+1)) else some x0) r):Ev (fun k=>l0 k x0 x1 x2 x3) r:=evl [] 0 (fun _ _ _=>by kernel_rfl) h
end qhfz
namespace qbkz
def f (k:Fu) (a0:List Int) (a1 a2:Int):Option ((List (Int×Int))×((List Int)×(Int×Int))):=PI Cx (k 0) 90 [va [.sl 5 (.int .u8) a0,ci a1,.int .u64 a2]]
def l0 (k:Fu) (x0:Int) (x1:List Int) (x2 x3:Int) (x4:List (Int×Int)):Option ((List (Int×Int))×((List Int)×(Int×Int))):=zap Cx (k 0) 90 [tt,tt,ff,tt,tt] [k 1] ⟨[(0,vp 9000000000000000 0),(3,vf 1000000003000),(4,vi x0)],[(9000000000000000,.box 67 [.sl 5 (.int .u8) x1,ci x2,.int .u64 x3]),(1000000003000,.row 155 (.pair i6 i6) x4 .own)],[]⟩
theorem v {a0:List Int} {a1 a2:Int} {r} (h:Ev (fun k=>(qdpz.f a0 a1 a2 5).bind fun t0 =>
 l0 k (W (1+t0.1)) t0.2.1 t0.2.2.1 t0.2.2.2 []) r):Ev (fun k=>f k a0 a1 a2) r:=evf (fun _ _ h=>by rw [<- qdpz.k (dl h)]; exact zac Cx (by kernel_rfl)) h
theorem v0 {x0:Int} {x1:List Int} {x2 x3:Int} {x4:List (Int×Int)} {r} (h:Ev (fun k=>if (iGt x0 0) then (qdpz.f x1 x2 x3 16).bind fun t0 =>
 (qdpz.f t0.2.1 t0.2.2.1 t0.2.2.2 6).bind fun t1 =>
 gd (((lnN x4)+1)<=8796093022208) <| l0 k (W (x0-1)) t1.2.1 t1.2.2.1 t1.2.2.2 (x4++[(t0.1,t1.1)]) else some (x4,(x1,(x2,x3)))) r):Ev (fun k=>l0 k x0 x1 x2 x3 x4) r:=evl [] 0 (fun _ _ h=>by rw [<- qdpz.k (dl h)]; kernel_rfl) h
end qbkz
end
end Go.Proofs.YtdhkgmhdengnkaaGreatDoor.Li
