/- What functions of the program compute. -/
import Derived.Test.YtdhkgmhdengnkaaGreatDoorDlF3
namespace Go.Proofs.YtdhkgmhdengnkaaGreatDoor.Dl
open Go Go.Proofs.YtdhkgmhdengnkaaGreatDoorPi Go.RowKit
set_option maxRecDepth 100000
set_option linter.unusedVariables false
noncomputable section
namespace qbkz
def f (k : Fu) (a0 : List (Int × Int)) (a1 : Int) (a2 : BA) : Option Bool := PI Cx (k 0) 7 [va [.sl 150 (.pair i6 i6) a0, ci a1], vs a2]
theorem v {a0 : List (Int × Int)} {a1 : Int} {a2 : BA} {r} (h : Ev (fun k => if (iGt (sln a2) 1048576) then some true else (qgez.f a0 a1 1048576).bind fun t0 =>
 if (iLt t0 0) then some true else (qgsz.f k a0 a1).bind fun t1 =>
 (qfdz.f k t1.1 t1.2 a2).bind fun t2 =>
 (qgsz.f k a0 a1).bind fun t3 =>
 (qepz.f k t3.1 t3.2 a2).bind fun t4 =>
 (qgxz.f k t4.1.1 t4.1.2 t2.1.1 t2.1.2).bind fun t5 =>
 if (!t5) then some false else if (!(seq t4.2.1 t2.2.1)) then some false else if (!(t4.2.2 == t2.2.2)) then some false else (qgsz.f k a0 a1).bind fun t6 =>
 (qgxz.f k t3.1 t3.2 t6.1 t6.2).bind fun t7 =>
 if (!t7) then some false else (qfez.f k t3.1 t3.2 1).bind fun t8 =>
 if (iLt t8.1 0) then some false else (qgxz.f k t4.1.1 t4.1.2 t2.1.1 t2.1.2).bind fun t9 =>
 if (!t9) then some false else if (!(seq t4.2.1 t2.2.1)) then some false else if (!(t4.2.2 == t2.2.2)) then some false else (qfez.f k t4.1.1 t4.1.2 1).bind fun t10 =>
 (qeuz.f k t10.2 t4.1.2 1).bind fun t11 =>
 if (iLt t11 0) then some false else if (t11 != t10.1) then some false else (qgsz.f k a0 a1).bind fun t12 =>
 (qepz.f k t12.1 t12.2 a2).bind fun t13 =>
 (qgxz.f k t13.1.1 t13.1.2 t2.1.1 t2.1.2).bind fun t14 =>
 if (!t14) then some false else if (!(seq t13.2.1 t2.2.1)) then some false else if (!(t13.2.2 == t2.2.2)) then some false else (qeuz.f k t10.2 t4.1.2 1).bind fun t15 =>
 if (iLt t15 0) then some false else if (t15 != t10.1) then some false else some true) r) : Ev (fun k => f k a0 a1 a2) r := evf (fun _ _ h => by rw [← qgez.k (dl h)]; exact PI_at Cx (by kernel_rfl)) h
end qbkz
end
end Go.Proofs.YtdhkgmhdengnkaaGreatDoor.Dl
