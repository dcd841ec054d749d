/- What functions of the program compute. -/
import Derived.Test.YtdhkgmhdengnkaaGreatDoorDlF1
namespace Go.Proofs.YtdhkgmhdengnkaaGreatDoor.Dl
open Go Go.Proofs.YtdhkgmhdengnkaaGreatDoorPi Go.RowKit
set_option maxRecDepth 100000
set_option linter.unusedVariables false
noncomputable section
namespace qbaz
def f (k : Fu) (a0 : List (List Int)) (a1 a2 a3 : Int) : Option (List (List Int)) := PI Cx (k 0) 268 [.sv (.one (.frow 44 (.sl 3 i6) a0)), vi a1, vi a2, vi a3, .sv (.one (.fn 178 []))]
def l0 (k : Fu) (x0 x1 x2 : Int) (x3 : List (List Int)) : Option (List (List Int)) := runAt Cx (k 0) 268 [ff, tt, ff, tt, tt, ff, tt] [k 1] ⟨[(0, vf 9000000000000001), (1, vi x0), (4, .sv (.one (.fn 178 []))), (10, vi x1), (11, vi x2)], [(9000000000000001, .row 44 (.sl 3 i6) x3 .lent)], []⟩
def l1 (k : Fu) (x0 x1 x2 : Int) (x3 : List (List Int)) : Option (List (List Int)) := runAt Cx (k 0) 268 [tt, ff, tt, ff, tt, tt, ff, tt] [k 2] ⟨[(0, vf 9000000000000001), (2, vi x0), (4, .sv (.one (.fn 178 []))), (14, vi x1), (15, vi x2)], [(9000000000000001, .row 44 (.sl 3 i6) x3 .lent)], []⟩
def l2 (k : Fu) (x0 x1 x2 x3 x4 x5 x6 x7 : Int) (x8 : List (List Int)) : Option (List (List Int)) := runAt Cx (k 0) 268 [tt, tt, tt, tt, tt, tt, tt, ff, tt] [k 3] ⟨[(0, vf 9000000000000001), (1, vi x0), (2, vi x1), (3, vi x2), (4, .sv (.one (.fn 178 []))), (18, vi x3), (19, vi x4), (20, vi x5), (21, vi x6), (22, vi x7)], [(9000000000000001, .row 44 (.sl 3 i6) x8 .lent)], []⟩
def l3 (k : Fu) (x0 x1 : Int) (x2 : List (List Int)) : Option (List (List Int)) := runAt Cx (k 0) 268 [ff, tt, ff, tt, tt, tt, ff, tt, tt] [k 4] ⟨[(0, vf 9000000000000001), (10, vi x0), (13, vi x1)], [(9000000000000001, .row 44 (.sl 3 i6) x2 .lent)], []⟩
def l4 (k : Fu) (x0 x1 : Int) (x2 : List (List Int)) : Option (List (List Int)) := runAt Cx (k 0) 268 [tt, ff, tt, ff, tt, tt, tt, ff, tt, tt] [k 5] ⟨[(0, vf 9000000000000001), (14, vi x0), (17, vi x1)], [(9000000000000001, .row 44 (.sl 3 i6) x2 .lent)], []⟩
theorem v {a0 : List (List Int)} {a1 a2 a3 : Int} {r} (h : Ev (fun k => if ((W (a2 - a1)) == 1) then l0 k a1 a2 a3 a0 else if ((W (a3 - a2)) == 1) then l1 k a2 a1 a2 a0 else if (iGt a2 (W (ishr (IntKind.wrap .u64 (W (a1 + a3))) 1))) then l2 k a1 a2 a3 (W (ishr (IntKind.wrap .u64 (W (a1 + a3))) 1)) (W ((W (ishr (IntKind.wrap .u64 (W (a1 + a3))) 1)) + a2)) (W ((W ((W (ishr (IntKind.wrap .u64 (W (a1 + a3))) 1)) + a2)) - a3)) (W (ishr (IntKind.wrap .u64 (W (a1 + a3))) 1)) (W ((W ((W (ishr (IntKind.wrap .u64 (W (a1 + a3))) 1)) + a2)) - 1)) a0 else l2 k a1 a2 a3 (W (ishr (IntKind.wrap .u64 (W (a1 + a3))) 1)) (W ((W (ishr (IntKind.wrap .u64 (W (a1 + a3))) 1)) + a2)) a1 a2 (W ((W ((W (ishr (IntKind.wrap .u64 (W (a1 + a3))) 1)) + a2)) - 1)) a0) r) : Ev (fun k => f k a0 a1 a2 a3) r := evf (fun _ _ _ => PI_at Cx (by kernel_rfl)) h
theorem v0 {x0 x1 x2 : Int} {x3 : List (List Int)} {r} (h : Ev (fun k => if (iLt x1 x2) then ix (W (ishr (IntKind.wrap .u64 (W (x1 + x2))) 1)) x3 <| ix x0 x3 <| (qbvz.f (rd [] x3 (W (ishr (IntKind.wrap .u64 (W (x1 + x2))) 1))) (rd [] x3 x0)).bind fun t0 =>
 if (iLt t0 0) then l0 k x0 (W ((W (ishr (IntKind.wrap .u64 (W (x1 + x2))) 1)) + 1)) x2 x3 else l0 k x0 x1 (W (ishr (IntKind.wrap .u64 (W (x1 + x2))) 1)) x3 else l3 k x1 x0 x3) r) : Ev (fun k => l0 k x0 x1 x2 x3) r := evl [] 0 (fun _ _ h => by rw [← qbvz.k (dl h)]; kernel_rfl) h
theorem v1 {x0 x1 x2 : Int} {x3 : List (List Int)} {r} (h : Ev (fun k => if (iLt x1 x2) then ix x0 x3 <| ix (W (ishr (IntKind.wrap .u64 (W (x1 + x2))) 1)) x3 <| (qbvz.f (rd [] x3 x0) (rd [] x3 (W (ishr (IntKind.wrap .u64 (W (x1 + x2))) 1)))).bind fun t0 =>
 if (!(iLt t0 0)) then l1 k x0 (W ((W (ishr (IntKind.wrap .u64 (W (x1 + x2))) 1)) + 1)) x2 x3 else l1 k x0 x1 (W (ishr (IntKind.wrap .u64 (W (x1 + x2))) 1)) x3 else l4 k x1 x0 x3) r) : Ev (fun k => l1 k x0 x1 x2 x3) r := evl [] 1 (fun _ _ h => by rw [← qbvz.k (dl h)]; kernel_rfl) h
theorem v2 {x0 x1 x2 x3 x4 x5 x6 x7 : Int} {x8 : List (List Int)} {r} (h : Ev (fun k => if (iLt x5 x6) then ix (W (x7 - (W (ishr (IntKind.wrap .u64 (W (x5 + x6))) 1)))) x8 <| ix (W (ishr (IntKind.wrap .u64 (W (x5 + x6))) 1)) x8 <| (qbvz.f (rd [] x8 (W (x7 - (W (ishr (IntKind.wrap .u64 (W (x5 + x6))) 1))))) (rd [] x8 (W (ishr (IntKind.wrap .u64 (W (x5 + x6))) 1)))).bind fun t0 =>
 if (!(iLt t0 0)) then l2 k x0 x1 x2 x3 x4 (W ((W (ishr (IntKind.wrap .u64 (W (x5 + x6))) 1)) + 1)) x6 x7 x8 else l2 k x0 x1 x2 x3 x4 x5 (W (ishr (IntKind.wrap .u64 (W (x5 + x6))) 1)) x7 x8 else if (iLt x5 x1) then if (iLt x1 (W (x4 - x5))) then (qbcz.f k x8 x5 x1 (W (x4 - x5))).bind fun t0 =>
 if (iLt x0 x5) then if (iLt x5 x3) then (f k t0 x0 x5 x3).bind fun t1 =>
 if (iLt x3 (W (x4 - x5))) then if (iLt (W (x4 - x5)) x2) then (f k t1 x3 (W (x4 - x5)) x2).bind fun t2 =>
 some t2 else some t1 else some t1 else if (iLt x3 (W (x4 - x5))) then if (iLt (W (x4 - x5)) x2) then (f k t0 x3 (W (x4 - x5)) x2).bind fun t1 =>
 some t1 else some t0 else some t0 else if (iLt x3 (W (x4 - x5))) then if (iLt (W (x4 - x5)) x2) then (f k t0 x3 (W (x4 - x5)) x2).bind fun t1 =>
 some t1 else some t0 else some t0 else if (iLt x0 x5) then if (iLt x5 x3) then (f k x8 x0 x5 x3).bind fun t0 =>
 if (iLt x3 (W (x4 - x5))) then if (iLt (W (x4 - x5)) x2) then (f k t0 x3 (W (x4 - x5)) x2).bind fun t1 =>
 some t1 else some t0 else some t0 else if (iLt x3 (W (x4 - x5))) then if (iLt (W (x4 - x5)) x2) then (f k x8 x3 (W (x4 - x5)) x2).bind fun t0 =>
 some t0 else some x8 else some x8 else if (iLt x3 (W (x4 - x5))) then if (iLt (W (x4 - x5)) x2) then (f k x8 x3 (W (x4 - x5)) x2).bind fun t0 =>
 some t0 else some x8 else some x8 else if (iLt x0 x5) then if (iLt x5 x3) then (f k x8 x0 x5 x3).bind fun t0 =>
 if (iLt x3 (W (x4 - x5))) then if (iLt (W (x4 - x5)) x2) then (f k t0 x3 (W (x4 - x5)) x2).bind fun t1 =>
 some t1 else some t0 else some t0 else if (iLt x3 (W (x4 - x5))) then if (iLt (W (x4 - x5)) x2) then (f k x8 x3 (W (x4 - x5)) x2).bind fun t0 =>
 some t0 else some x8 else some x8 else if (iLt x3 (W (x4 - x5))) then if (iLt (W (x4 - x5)) x2) then (f k x8 x3 (W (x4 - x5)) x2).bind fun t0 =>
 some t0 else some x8 else some x8) r) : Ev (fun k => l2 k x0 x1 x2 x3 x4 x5 x6 x7 x8) r := evl [] 2 (fun _ _ h => by rw [← qbvz.k (dl h)]; kernel_rfl) h
theorem v3 {x0 x1 : Int} {x2 : List (List Int)} {r} (h : Ev (fun k => if (iLt x1 (W (x0 - 1))) then ix (W (x1 + 1)) x2 <| ix x1 x2 <| ix x1 x2 <| ix (W (x1 + 1)) (List.set x2 (Int.toNat x1) (rd [] x2 (W (x1 + 1)))) <| l3 k x0 (W (x1 + 1)) (List.set (List.set x2 (Int.toNat x1) (rd [] x2 (W (x1 + 1)))) (Int.toNat (W (x1 + 1))) (rd [] x2 x1)) else some x2) r) : Ev (fun k => l3 k x0 x1 x2) r := evl [] 3 (fun _ _ _ => by kernel_rfl) h
theorem v4 {x0 x1 : Int} {x2 : List (List Int)} {r} (h : Ev (fun k => if (iGt x1 x0) then ix (W (x1 - 1)) x2 <| ix x1 x2 <| ix x1 x2 <| ix (W (x1 - 1)) (List.set x2 (Int.toNat x1) (rd [] x2 (W (x1 - 1)))) <| l4 k x0 (W (x1 - 1)) (List.set (List.set x2 (Int.toNat x1) (rd [] x2 (W (x1 - 1)))) (Int.toNat (W (x1 - 1))) (rd [] x2 x1)) else some x2) r) : Ev (fun k => l4 k x0 x1 x2) r := evl [] 4 (fun _ _ _ => by kernel_rfl) h
end qbaz
namespace qbdz
def f (k : Fu) (a0 : List (List Int)) (a1 : Int) : Option (List (List Int)) := PI Cx (k 0) 230 [.sv (.one (.frow 44 (.sl 3 i6) a0)), vi a1, .sv (.one (.fn 178 []))]
def l0 (k : Fu) (x0 x1 x2 x3 : Int) (x4 : List (List Int)) : Option (List (List Int)) := runAt Cx (k 0) 230 [tt, tt, ff, tt] [k 1] ⟨[(0, vf 9000000000000001), (1, vi x0), (2, .sv (.one (.fn 178 []))), (6, vi x1), (7, vi x2), (8, vi x3)], [(9000000000000001, .row 44 (.sl 3 i6) x4 .lent)], []⟩
def l1 (k : Fu) (x0 x1 : Int) (x2 : List (List Int)) : Option (List (List Int)) := runAt Cx (k 0) 230 [tt, tt, tt, tt, tt] [k 2] ⟨[(0, vf 9000000000000001), (1, vi x0), (2, .sv (.one (.fn 178 []))), (6, vi x1)], [(9000000000000001, .row 44 (.sl 3 i6) x2 .lent)], []⟩
def l2 (k : Fu) (x0 x1 x2 x3 : Int) (x4 : List (List Int)) : Option (List (List Int)) := runAt Cx (k 0) 230 [tt, tt, tt, tt, tt, tt, tt, tt, tt, ff, tt] [k 2, k 3] ⟨[(0, vf 9000000000000001), (1, vi x0), (2, .sv (.one (.fn 178 []))), (6, vi x1), (7, vi x2), (8, vi x3)], [(9000000000000001, .row 44 (.sl 3 i6) x4 .lent)], []⟩
theorem v {a0 : List (List Int)} {a1 : Int} {r} (h : Ev (fun k => l0 k a1 20 0 20 a0) r) : Ev (fun k => f k a0 a1) r := evf (fun _ _ _ => PI_at Cx (by kernel_rfl)) h
theorem v0 {x0 x1 x2 x3 : Int} {x4 : List (List Int)} {r} (h : Ev (fun k => if (iLe x3 x0) then (qatz.f k x4 x2 x3).bind fun t0 =>
 l0 k x0 x1 x3 (W (x3 + x1)) t0 else (qatz.f k x4 x2 x0).bind fun t0 =>
 l1 k x0 x1 t0) r) : Ev (fun k => l0 k x0 x1 x2 x3 x4) r := evl [] 0 (fun _ _ _ => by kernel_rfl) h
theorem v1 {x0 x1 : Int} {x2 : List (List Int)} {r} (h : Ev (fun k => if (iLt x1 x0) then l2 k x0 x1 0 (W (2 * x1)) x2 else some x2) r) : Ev (fun k => l1 k x0 x1 x2) r := evl [] 1 (fun _ _ _ => by kernel_rfl) h
theorem v2 {x0 x1 x2 x3 : Int} {x4 : List (List Int)} {r} (h : Ev (fun k => if (iLe x3 x0) then (qbaz.f k x4 x2 (W (x2 + x1)) x3).bind fun t0 =>
 l2 k x0 x1 x3 (W (x3 + (W (2 * x1)))) t0 else if (iLt (W (x2 + x1)) x0) then (qbaz.f k x4 x2 (W (x2 + x1)) x0).bind fun t0 =>
 l1 k x0 (W (x1 * 2)) t0 else l1 k x0 (W (x1 * 2)) x4) r) : Ev (fun k => l2 k x0 x1 x2 x3 x4) r := evl [2] 2 (fun _ _ _ => by kernel_rfl) h
end qbdz
namespace qaxz
def f (k : Fu) (a0 : List (List Int)) : Option (List (List Int)) := PI Cx (k 0) 177 [.sv (.one (.frow 44 (.sl 3 i6) a0)), .sv (.one (.fn 178 []))]
theorem v {a0 : List (List Int)} {r} (h : Ev (fun k => (qbdz.f k a0 (ln a0)).bind fun t0 =>
 some t0) r) : Ev (fun k => f k a0) r := evf (fun _ _ _ => PI_at Cx (by kernel_rfl)) h
end qaxz
namespace qhtz
abbrev P := Int → Option Int
def f : P := fun a0 => some (mx a0 (W (0 - a0)))
theorem k {K : Nat} (h : 1 ≤ K) : (fun a0 => PI Cx K 176 [vi a0] : P) = f := by
 obtain ⟨K, rfl⟩ := pos_of_le h
 funext a0
 exact PI_at Cx (by kernel_rfl)
end qhtz
namespace qelz
def f (k : Fu) (a0 a1 : Int) : Option Int := PI Cx (k 0) 175 [vi a0, vi a1]
def l0 (k : Fu) (x0 x1 : Int) : Option Int := runAt Cx (k 0) 175 [tt, ff, tt] [k 1] ⟨[(0, vi x0), (1, vi x1)], [], []⟩
theorem v {a0 a1 : Int} {r} (h : Ev (fun k => l0 k a0 a1) r) : Ev (fun k => f k a0 a1) r := evf (fun _ _ _ => PI_at Cx (by kernel_rfl)) h
theorem v0 {x0 x1 : Int} {r} (h : Ev (fun k => if (iGt x1 0) then if x1 = 0 then none else l0 k x1 (Int.tmod x0 x1) else some x0) r) : Ev (fun k => l0 k x0 x1) r := evl [] 0 (fun _ _ _ => by kernel_rfl) h
end qelz
namespace qgyz
def f (k : Fu) (a0 a1 : Int) : Option (Int × Int) := PI Cx (k 0) 110 [vi a0, vi a1]
theorem v {a0 a1 : Int} {r} (h : Ev (fun k => if (iLt a1 0) then (qhtz.f (W (0 - a0))).bind fun t0 =>
 (qelz.f k (W (0 - a1)) t0).bind fun t1 =>
 if t1 = 0 then none else if t1 = 0 then none else some ((W (Int.tdiv (W (0 - a0)) t1)), (W (Int.tdiv (W (0 - a1)) t1))) else (qhtz.f a0).bind fun t0 =>
 (qelz.f k a1 t0).bind fun t1 =>
 if t1 = 0 then none else if t1 = 0 then none else some ((W (Int.tdiv a0 t1)), (W (Int.tdiv a1 t1)))) r) : Ev (fun k => f k a0 a1) r := evf (fun _ _ h => by rw [← qhtz.k (dl h)]; exact PI_at Cx (by kernel_rfl)) h
end qgyz
namespace qddz
def f (k : Fu) (a0 a1 a2 a3 : Int) : Option (Int × (Int × Bool)) := PI Cx (k 0) 109 [va [ci a0, ci a1], va [ci a2, ci a3]]
theorem v {a0 a1 a2 a3 : Int} {r} (h : Ev (fun k => if (a0 == a2) then some (0, (1, true)) else if (a1 == a3) then some (0, (0, false)) else (qgyz.f k (W (a2 - a0)) (W (a1 - a3))).bind fun t0 =>
 if (iLt t0.1 0) then some (0, (0, false)) else some (t0.1, (t0.2, true))) r) : Ev (fun k => f k a0 a1 a2 a3) r := evf (fun _ _ _ => PI_at Cx (by kernel_rfl)) h
end qddz
namespace qcmz
def f (k : Fu) (a0 : List (Int × Int)) : Option (List (List Int)) := PI Cx (k 0) 112 [vl 74 (.pair i6 i6) a0]
def l0 (k : Fu) (x0 x1 : List (Int × Int)) (x2 x3 : Int) (x4 : List (List Int)) : Option (List (List Int)) := runAt Cx (k 0) 112 [tt, tt, ff, tt, tt] [k 1] ⟨[(0, vl 74 (.pair i6 i6) x0), (3, vf 1000000003000), (10, vl 74 (.pair i6 i6) x1), (11, vi x2), (12, vi x3)], [(1000000003000, .row 44 (.sl 3 i6) x4 .own)], []⟩
def l1 (k : Fu) (x0 : List (Int × Int)) (x1 x2 : Int) (x3 : List (Int × Int)) (x4 x5 : Int) (x6 : List (List Int)) (x7 x8 : Int) : Option (List (List Int)) := runAt Cx (k 0) 112 [tt, tt, ff, tt, tt, tt, tt, tt, ff, tt, tt, tt, tt] [k 1, k 2] ⟨[(0, vl 74 (.pair i6 i6) x0), (3, vf 1000000003000), (4, vi x1), (5, vp 4003000 0), (6, vi x2), (10, vl 74 (.pair i6 i6) x3), (11, vi x4), (12, vi x5)], [(1000000003000, .row 44 (.sl 3 i6) x6 .own), (4003000, .box 74 [ci x7, ci x8])], []⟩
theorem v {a0 : List (Int × Int)} {r} (h : Ev (fun k => l0 k a0 a0 (ln a0) 0 []) r) : Ev (fun k => f k a0) r := evf (fun _ _ _ => PI_at Cx (by kernel_rfl)) h
theorem v0 {x0 x1 : List (Int × Int)} {x2 x3 : Int} {x4 : List (List Int)} {r} (h : Ev (fun k => if (iLt x3 x2) then ix x3 x1 <| l1 k x0 x3 (W (x3 + 1)) x1 x2 x3 x4 (rd (0, 0) x1 x3).1 (rd (0, 0) x1 x3).2 else (qaxz.f k x4).bind fun t0 =>
 some t0) r) : Ev (fun k => l0 k x0 x1 x2 x3 x4) r := evl [] 0 (fun _ _ _ => by kernel_rfl) h
theorem v1 {x0 : List (Int × Int)} {x1 x2 : Int} {x3 : List (Int × Int)} {x4 x5 : Int} {x6 : List (List Int)} {x7 x8 : Int} {r} (h : Ev (fun k => if (iLt x2 (ln x0)) then ix x2 x0 <| (qddz.f k x7 x8 (rd (0, 0) x0 x2).1 (rd (0, 0) x0 x2).2).bind fun t0 =>
 if t0.2.2 then gd (((lnN x6) + 1) ≤ 5864062014805) <| l1 k x0 x1 (W (x2 + 1)) x3 x4 x5 (x6 ++ [[x1, x2, t0.1, t0.2.1]]) x7 x8 else l1 k x0 x1 (W (x2 + 1)) x3 x4 x5 x6 x7 x8 else l0 k x0 x3 x4 (W (x5 + 1)) x6) r) : Ev (fun k => l1 k x0 x1 x2 x3 x4 x5 x6 x7 x8) r := evl [1] 1 (fun _ _ _ => by kernel_rfl) h
end qcmz
namespace qbwz
def f (k : Fu) (a0 : List (Int × Int)) : Option (Int × Bool) := PI Cx (k 0) 63 [vl 74 (.pair i6 i6) a0]
theorem v {a0 : List (Int × Int)} {r} (h : Ev (fun k => (qdtz.f k a0).bind fun t0 =>
 if (!t0) then some (0, false) else (qcmz.f k a0).bind fun t1 =>
 some ((ln t1), true)) r) : Ev (fun k => f k a0) r := evf (fun _ _ _ => PI_at Cx (by kernel_rfl)) h
end qbwz
namespace qguz
abbrev P := Int → Bool → Option (BA × Bool)
def f : P := fun a0 a1 => (qfiz.f a0).bind fun t0 =>
 some (t0, a1)
theorem k {K : Nat} (h : 2 ≤ K) : (fun a0 a1 => PI Cx K 195 [vi a0, vb a1] : P) = f := by
 obtain ⟨K, rfl⟩ := pos_of_le h
 funext a0 a1
 unfold f
 rw [← qfiz.k (dk h)]
 exact PI_at Cx (by kernel_rfl)
end qguz
namespace qcrz
def f (k : Fu) (a0 : List (Int × Int)) : Option ((List (List Int)) × Bool) := PI Cx (k 0) 196 [vl 74 (.pair i6 i6) a0]
theorem v {a0 : List (Int × Int)} {r} (h : Ev (fun k => (qdtz.f k a0).bind fun t0 =>
 if (!t0) then some ([], false) else (qcmz.f k a0).bind fun t1 =>
 some (t1, true)) r) : Ev (fun k => f k a0) r := evf (fun _ _ _ => PI_at Cx (by kernel_rfl)) h
end qcrz
namespace qfjz
def f (k : Fu) (a0 : List Int) (a1 : Bool) : Option (BA × Bool) := PI Cx (k 0) 197 [vl 3 i6 a0, vb a1]
theorem v {a0 : List Int} {a1 : Bool} {r} (h : Ev (fun k => if ((ln a0) == 0) then some ((bs [45]), a1) else (qcxz.f k a0 (bs [44])).bind fun t0 =>
 some (t0, a1)) r) : Ev (fun k => f k a0 a1) r := evf (fun _ _ _ => PI_at Cx (by kernel_rfl)) h
end qfjz
namespace qcqz
def f (k : Fu) (a0 : List (Int × Int)) : Option (List Int) := PI Cx (k 0) 240 [vl 74 (.pair i6 i6) a0]
def l0 (k : Fu) (x0 : List (Int × Int)) (x1 : Int) (x2 : List (Int × Int)) (x3 x4 : Int) : Option (List Int) := runAt Cx (k 0) 240 [tt, tt, ff, tt, tt] [k 1] ⟨[(0, vl 74 (.pair i6 i6) x0), (3, vi x1), (17, vl 74 (.pair i6 i6) x2), (18, vi x3), (19, vi x4)], [], []⟩
def l1 (k : Fu) (x0 : List (Int × Int)) (x1 : Int) (x2 : List Int) : Option (List Int) := runAt Cx (k 0) 240 [tt, tt, tt, tt, tt] [k 2] ⟨[(0, vl 74 (.pair i6 i6) x0), (3, vi x1), (7, vf 1000000007000)], [(1000000007000, .row 3 i6 x2 .own)], []⟩
def l2 (k : Fu) (x0 : List (Int × Int)) (x1 x2 x3 x4 : Int) (x5 : List (Int × Int)) (x6 x7 : Int) (x8 : List Int) : Option (List Int) := runAt Cx (k 0) 240 [tt, tt, tt, tt, tt, tt, tt, tt, ff, tt, tt] [k 2, k 3] ⟨[(0, vl 74 (.pair i6 i6) x0), (3, vi x1), (7, vf 1000000007000), (8, vi x2), (9, vi x3), (10, vi x4), (51, vl 74 (.pair i6 i6) x5), (52, vi x6), (53, vi x7)], [(1000000007000, .row 3 i6 x8 .own)], []⟩
theorem v {a0 : List (Int × Int)} {r} (h : Ev (fun k => l0 k a0 0 a0 (ln a0) 0) r) : Ev (fun k => f k a0) r := evf (fun _ _ _ => PI_at Cx (by kernel_rfl)) h
theorem v0 {x0 : List (Int × Int)} {x1 : Int} {x2 : List (Int × Int)} {x3 x4 : Int} {r} (h : Ev (fun k => if (iLt x4 x3) then ix x4 x2 <| ix x1 x0 <| if (iGt (rd (0, 0) x2 x4).1 (rd (0, 0) x0 x1).1) then l0 k x0 x4 x2 x3 (W (x4 + 1)) else if ((rd (0, 0) x2 x4).1 == (rd (0, 0) x0 x1).1) then if (iGt (rd (0, 0) x2 x4).2 (rd (0, 0) x0 x1).2) then l0 k x0 x4 x2 x3 (W (x4 + 1)) else l0 k x0 x1 x2 x3 (W (x4 + 1)) else l0 k x0 x1 x2 x3 (W (x4 + 1)) else l1 k x0 x1 [x1]) r) : Ev (fun k => l0 k x0 x1 x2 x3 x4) r := evl [] 0 (fun _ _ _ => by kernel_rfl) h
theorem v1 {x0 : List (Int × Int)} {x1 : Int} {x2 : List Int} {r} (h : Ev (fun k => l2 k x0 x1 (-1) 0 0 x0 (ln x0) 0 x2) r) : Ev (fun k => l1 k x0 x1 x2) r := evl [] 1 (fun _ _ _ => by kernel_rfl) h
theorem v2 {x0 : List (Int × Int)} {x1 x2 x3 x4 : Int} {x5 : List (Int × Int)} {x6 x7 : Int} {x8 : List Int} {r} (h : Ev (fun k => if (iLt x7 x6) then ix x7 x5 <| ix x1 x0 <| if (iLe (rd (0, 0) x5 x7).2 (rd (0, 0) x0 x1).2) then l2 k x0 x1 x2 x3 x4 x5 x6 (W (x7 + 1)) x8 else ix x1 x0 <| (qddz.f k (rd (0, 0) x5 x7).1 (rd (0, 0) x5 x7).2 (rd (0, 0) x0 x1).1 (rd (0, 0) x0 x1).2).bind fun t0 =>
 if (!t0.2.2) then l2 k x0 x1 x2 x3 x4 x5 x6 (W (x7 + 1)) x8 else if (iLt x2 0) then l2 k x0 x1 x7 t0.1 t0.2.1 x5 x6 (W (x7 + 1)) x8 else if (iLt (W ((W (t0.1 * x4)) - (W (x3 * t0.2.1)))) 0) then l2 k x0 x1 x7 t0.1 t0.2.1 x5 x6 (W (x7 + 1)) x8 else if ((W ((W (t0.1 * x4)) - (W (x3 * t0.2.1)))) == 0) then ix x2 x0 <| if (iGt (rd (0, 0) x5 x7).2 (rd (0, 0) x0 x2).2) then l2 k x0 x1 x7 t0.1 t0.2.1 x5 x6 (W (x7 + 1)) x8 else l2 k x0 x1 x2 x3 x4 x5 x6 (W (x7 + 1)) x8 else l2 k x0 x1 x2 x3 x4 x5 x6 (W (x7 + 1)) x8 else if (iLt x2 0) then some x8 else gd (((lnN x8) + 1) ≤ 17592186044416) <| l1 k x0 x2 (x8 ++ [x2])) r) : Ev (fun k => l2 k x0 x1 x2 x3 x4 x5 x6 x7 x8) r := evl [2] 2 (fun _ _ _ => by kernel_rfl) h
end qcqz
namespace qdvz
def f (k : Fu) (a0 : List (Int × Int)) : Option ((List Int) × Bool) := PI Cx (k 0) 198 [vl 74 (.pair i6 i6) a0]
theorem v {a0 : List (Int × Int)} {r} (h : Ev (fun k => (qdtz.f k a0).bind fun t0 =>
 if (!t0) then some ([], false) else (qcqz.f k a0).bind fun t1 =>
 some (t1, true)) r) : Ev (fun k => f k a0) r := evf (fun _ _ _ => PI_at Cx (by kernel_rfl)) h
end qdvz
namespace qhlz
def f (k : Fu) (a0 : List Int) : Option Int := PI Cx (k 0) 243 [vl 3 i6 a0]
def l0 (k : Fu) (x0 : Int) (x1 : List Int) (x2 x3 : Int) : Option Int := runAt Cx (k 0) 243 [tt, tt, ff, tt, tt] [k 1] ⟨[(3, vi x0), (6, vl 3 i6 x1), (7, vi x2), (8, vi x3)], [], []⟩
theorem v {a0 : List Int} {r} (h : Ev (fun k => l0 k 0 a0 (ln a0) 0) r) : Ev (fun k => f k a0) r := evf (fun _ _ _ => PI_at Cx (by kernel_rfl)) h
theorem v0 {x0 : Int} {x1 : List Int} {x2 x3 : Int} {r} (h : Ev (fun k => if (iLt x3 x2) then ix x3 x1 <| if ((rd 0 x1 x3) != x0) then some (rd 0 x1 x3) else l0 k x0 x1 x2 (W (x3 + 1)) else some x0) r) : Ev (fun k => l0 k x0 x1 x2 x3) r := evl [] 0 (fun _ _ _ => by kernel_rfl) h
end qhlz
namespace qcuz
def f (k : Fu) (a0 a1 a2 a3 : Int) : Option Int := PI Cx (k 0) 242 [va [ci a0, ci a1], va [ci a2, ci a3]]
theorem v {a0 a1 a2 a3 : Int} {r} (h : Ev (fun k => (qdoz.f a1 a3).bind fun t0 =>
 (qdoz.f a0 a2).bind fun t1 =>
 (qhlz.f k [t0, t1]).bind fun t2 =>
 some t2) r) : Ev (fun k => f k a0 a1 a2 a3) r := evf (fun _ _ h => by rw [← qdoz.k (dl h)]; exact PI_at Cx (by kernel_rfl)) h
end qcuz
namespace qblz
def f (k : Fu) (a0 a1 : Int) (a2 : List (Int × Int)) : Option Int := PI Cx (k 0) 277 [vi a0, vi a1, .sv (.one (.rptr [.fn 242 []] 0)), .sv (.one (.rptr [.sl 74 (.pair i6 i6) a2] 0))]
theorem v {a0 a1 : Int} {a2 : List (Int × Int)} {r} (h : Ev (fun k => ix a0 a2 <| ix a1 a2 <| (qcuz.f k (rd (0, 0) a2 a0).1 (rd (0, 0) a2 a0).2 (rd (0, 0) a2 a1).1 (rd (0, 0) a2 a1).2).bind fun t0 =>
 some t0) r) : Ev (fun k => f k a0 a1 a2) r := evf (fun _ _ _ => PI_at Cx (by kernel_rfl)) h
end qblz
namespace qapz
def f (k : Fu) (a0 : List Int) (a1 a2 : Int) (a3 : List (Int × Int)) : Option (List Int) := PI Cx (k 0) 305 [.sv (.one (.frow 3 i6 a0)), vi a1, vi a2, .sv (.one (.fn 277 [.rptr [.fn 242 []] 0, .rptr [.sl 74 (.pair i6 i6) a3] 0]))]
def l0 (k : Fu) (x0 x1 : Int) (x2 : List (Int × Int)) (x3 : Int) (x4 : List Int) : Option (List Int) := runAt Cx (k 0) 305 [tt, tt] [k 1] ⟨[(0, vf 9000000000000001), (1, vi x0), (2, vi x1), (3, .sv (.one (.fn 277 [.rptr [.fn 242 []] 0, .rptr [.sl 74 (.pair i6 i6) x2] 0]))), (8, vi x3)], [(9000000000000001, .row 3 i6 x4 .lent)], []⟩
def l1 (k : Fu) (x0 x1 : Int) (x2 : List (Int × Int)) (x3 x4 : Int) (x5 : List Int) : Option (List Int) := runAt Cx (k 0) 305 [tt, tt, tt, tt, ff, tt, tt, tt] [k 1, k 2] ⟨[(0, vf 9000000000000001), (1, vi x0), (2, vi x1), (3, .sv (.one (.fn 277 [.rptr [.fn 242 []] 0, .rptr [.sl 74 (.pair i6 i6) x2] 0]))), (8, vi x3), (9, vi x4)], [(9000000000000001, .row 3 i6 x5 .lent)], []⟩
theorem v {a0 : List Int} {a1 a2 : Int} {a3 : List (Int × Int)} {r} (h : Ev (fun k => l0 k a1 a2 a3 (W (a1 + 1)) a0) r) : Ev (fun k => f k a0 a1 a2 a3) r := evf (fun _ _ _ => PI_at Cx (by kernel_rfl)) h
theorem v0 {x0 x1 : Int} {x2 : List (Int × Int)} {x3 : Int} {x4 : List Int} {r} (h : Ev (fun k => if (iLt x3 x1) then l1 k x0 x1 x2 x3 x3 x4 else some x4) r) : Ev (fun k => l0 k x0 x1 x2 x3 x4) r := evl [] 0 (fun _ _ _ => by kernel_rfl) h
theorem v1 {x0 x1 : Int} {x2 : List (Int × Int)} {x3 x4 : Int} {x5 : List Int} {r} (h : Ev (fun k => if (iGt x4 x0) then ix x4 x5 <| ix (W (x4 - 1)) x5 <| (qblz.f k (rd 0 x5 x4) (rd 0 x5 (W (x4 - 1))) x2).bind fun t0 =>
 if (iLt t0 0) then ix (W (x4 - 1)) x5 <| ix x4 x5 <| ix x4 x5 <| ix (W (x4 - 1)) (List.set x5 (Int.toNat x4) (rd 0 x5 (W (x4 - 1)))) <| l1 k x0 x1 x2 x3 (W (x4 - 1)) (List.set (List.set x5 (Int.toNat x4) (rd 0 x5 (W (x4 - 1)))) (Int.toNat (W (x4 - 1))) (rd 0 x5 x4)) else l0 k x0 x1 x2 (W (x3 + 1)) x5 else l0 k x0 x1 x2 (W (x3 + 1)) x5) r) : Ev (fun k => l1 k x0 x1 x2 x3 x4 x5) r := evl [1] 1 (fun _ _ _ => by kernel_rfl) h
end qapz
namespace qayz
def f (k : Fu) (a0 : List Int) (a1 a2 a3 : Int) (a4 : List (Int × Int)) : Option (List Int) := PI Cx (k 0) 306 [.sv (.one (.frow 3 i6 a0)), vi a1, vi a2, vi a3, .sv (.one (.fn 277 [.rptr [.fn 242 []] 0, .rptr [.sl 74 (.pair i6 i6) a4] 0]))]
end qayz
namespace qbbz
def f (k : Fu) (a0 : List Int) (a1 : Int) (a2 : List (Int × Int)) : Option (List Int) := PI Cx (k 0) 294 [.sv (.one (.frow 3 i6 a0)), vi a1, .sv (.one (.fn 277 [.rptr [.fn 242 []] 0, .rptr [.sl 74 (.pair i6 i6) a2] 0]))]
def l0 (k : Fu) (x0 : Int) (x1 : List (Int × Int)) (x2 x3 x4 : Int) (x5 : List Int) : Option (List Int) := runAt Cx (k 0) 294 [tt, tt, ff, tt] [k 1] ⟨[(0, vf 9000000000000001), (1, vi x0), (2, .sv (.one (.fn 277 [.rptr [.fn 242 []] 0, .rptr [.sl 74 (.pair i6 i6) x1] 0]))), (6, vi x2), (7, vi x3), (8, vi x4)], [(9000000000000001, .row 3 i6 x5 .lent)], []⟩
def l1 (k : Fu) (x0 : Int) (x1 : List (Int × Int)) (x2 : Int) (x3 : List Int) : Option (List Int) := runAt Cx (k 0) 294 [tt, tt, tt, tt, tt] [k 2] ⟨[(0, vf 9000000000000001), (1, vi x0), (2, .sv (.one (.fn 277 [.rptr [.fn 242 []] 0, .rptr [.sl 74 (.pair i6 i6) x1] 0]))), (6, vi x2)], [(9000000000000001, .row 3 i6 x3 .lent)], []⟩
def l2 (k : Fu) (x0 : Int) (x1 : List (Int × Int)) (x2 x3 x4 : Int) (x5 : List Int) : Option (List Int) := runAt Cx (k 0) 294 [tt, tt, tt, tt, tt, tt, tt, tt, tt, ff, tt] [k 2, k 3] ⟨[(0, vf 9000000000000001), (1, vi x0), (2, .sv (.one (.fn 277 [.rptr [.fn 242 []] 0, .rptr [.sl 74 (.pair i6 i6) x1] 0]))), (6, vi x2), (7, vi x3), (8, vi x4)], [(9000000000000001, .row 3 i6 x5 .lent)], []⟩
theorem v {a0 : List Int} {a1 : Int} {a2 : List (Int × Int)} {r} (h : Ev (fun k => l0 k a1 a2 20 0 20 a0) r) : Ev (fun k => f k a0 a1 a2) r := evf (fun _ _ _ => PI_at Cx (by kernel_rfl)) h
theorem v0 {x0 : Int} {x1 : List (Int × Int)} {x2 x3 x4 : Int} {x5 : List Int} {r} (h : Ev (fun k => if (iLe x4 x0) then (qapz.f k x5 x3 x4 x1).bind fun t0 =>
 l0 k x0 x1 x2 x4 (W (x4 + x2)) t0 else (qapz.f k x5 x3 x0 x1).bind fun t0 =>
 l1 k x0 x1 x2 t0) r) : Ev (fun k => l0 k x0 x1 x2 x3 x4 x5) r := evl [] 0 (fun _ _ _ => by kernel_rfl) h
theorem v1 {x0 : Int} {x1 : List (Int × Int)} {x2 : Int} {x3 : List Int} {r} (h : Ev (fun k => if (iLt x2 x0) then l2 k x0 x1 x2 0 (W (2 * x2)) x3 else some x3) r) : Ev (fun k => l1 k x0 x1 x2 x3) r := evl [] 1 (fun _ _ _ => by kernel_rfl) h
theorem v2 {x0 : Int} {x1 : List (Int × Int)} {x2 x3 x4 : Int} {x5 : List Int} {r} (h : Ev (fun k => if (iLe x4 x0) then (qayz.f k x5 x3 (W (x3 + x2)) x4 x1).bind fun t0 =>
 l2 k x0 x1 x2 x4 (W (x4 + (W (2 * x2)))) t0 else if (iLt (W (x3 + x2)) x0) then (qayz.f k x5 x3 (W (x3 + x2)) x0 x1).bind fun t0 =>
 l1 k x0 x1 (W (x2 * 2)) t0 else l1 k x0 x1 (W (x2 * 2)) x5) r) : Ev (fun k => l2 k x0 x1 x2 x3 x4 x5) r := evl [2] 2 (fun _ _ _ => by kernel_rfl) h
end qbbz
namespace qauz
def f (k : Fu) (a0 : List Int) (a1 : List (Int × Int)) : Option (List Int) := PI Cx (k 0) 276 [.sv (.one (.frow 3 i6 a0)), .sv (.one (.fn 277 [.rptr [.fn 242 []] 0, .rptr [.sl 74 (.pair i6 i6) a1] 0]))]
theorem v {a0 : List Int} {a1 : List (Int × Int)} {r} (h : Ev (fun k => (qbbz.f k a0 (ln a0) a1).bind fun t0 =>
 some t0) r) : Ev (fun k => f k a0 a1) r := evf (fun _ _ _ => PI_at Cx (by kernel_rfl)) h
end qauz
namespace qbgz
def f (k : Fu) (a0 : List (Int × Int)) : Option (List Int) := PI Cx (k 0) 241 [vl 74 (.pair i6 i6) a0, .sv (.one (.fn 242 []))]
def l0 (k : Fu) (x0 x1 : Int) (x2 : List (Int × Int)) (x3 : List Int) : Option (List Int) := runAt Cx (k 0) 241 [tt, tt, ff, tt, tt] [k 1] ⟨[(2, vp 0 0), (3, vp 1000 0), (5, vf 1000000005000), (11, vi x0), (12, vi x1)], [(0, .box 22 [.sl 74 (.pair i6 i6) x2]), (1000, .box 227 [.fn 242 []]), (1000000005000, .row 3 i6 x3 .own)], []⟩
theorem v {a0 : List (Int × Int)} {r} (h : Ev (fun k => gd (0 ≤ (ln a0)) <| gd ((ln a0) ≤ (ln a0)) <| gd (((ln a0) * 8) ≤ 140737488355328) <| l0 k (ln (List.replicate (Int.toNat (ln a0)) (0 : Int))) 0 a0 (List.replicate (Int.toNat (ln a0)) (0 : Int))) r) : Ev (fun k => f k a0) r := evf (fun _ _ _ => PI_at Cx (by kernel_rfl)) h
theorem v0 {x0 x1 : Int} {x2 : List (Int × Int)} {x3 : List Int} {r} (h : Ev (fun k => if (iLt x1 x0) then ix x1 x3 <| l0 k x0 (W (x1 + 1)) x2 (List.set x3 (Int.toNat x1) x1) else (qauz.f k x3 x2).bind fun t0 =>
 some t0) r) : Ev (fun k => l0 k x0 x1 x2 x3) r := evl [] 0 (fun _ _ _ => by kernel_rfl) h
end qbgz
namespace qedz
def f (k : Fu) (a0 : List (Int × Int)) : Option ((List Int) × Bool) := PI Cx (k 0) 199 [vl 74 (.pair i6 i6) a0]
theorem v {a0 : List (Int × Int)} {r} (h : Ev (fun k => (qdtz.f k a0).bind fun t0 =>
 if (!t0) then some ([], false) else (qbgz.f k a0).bind fun t1 =>
 some (t1, true)) r) : Ev (fun k => f k a0) r := evf (fun _ _ _ => PI_at Cx (by kernel_rfl)) h
end qedz
namespace qhiz
abbrev P := Int → Int → Option Bool
def f : P := fun a0 a1 => (qgwz.f a0 0 1000000).bind fun t0 =>
 if t0 then (qgwz.f a1 1 1000).bind fun t1 =>
 some t1 else some false
theorem k {K : Nat} (h : 2 ≤ K) : (fun a0 a1 => PI Cx K 244 [vi a0, vi a1] : P) = f := by
 obtain ⟨K, rfl⟩ := pos_of_le h
 funext a0 a1
 unfold f
 rw [← qgwz.k (dk h)]
 exact PI_at Cx (by kernel_rfl)
end qhiz
namespace qfhz
abbrev P := Int → Int → Int → Int → Option Int
def f : P := fun a0 a1 a2 a3 => some (W ((W (a0 * a3)) + (W (a1 * a2))))
theorem k {K : Nat} (h : 1 ≤ K) : (fun a0 a1 a2 a3 => PI Cx K 111 [va [ci a0, ci a1], vi a2, vi a3] : P) = f := by
 obtain ⟨K, rfl⟩ := pos_of_le h
 funext a0 a1 a2 a3
 exact PI_at Cx (by kernel_rfl)
end qfhz
namespace qcjz
abbrev P := Int → Int → Int → Int → Int → Int → Option Int
def f : P := fun a0 a1 a2 a3 a4 a5 => (qfhz.f a0 a1 a4 a5).bind fun t0 =>
 (qfhz.f a2 a3 a4 a5).bind fun t1 =>
 (qdoz.f t0 t1).bind fun t2 =>
 some t2
theorem k {K : Nat} (h : 3 ≤ K) : (fun a0 a1 a2 a3 a4 a5 => PI Cx K 245 [va [ci a0, ci a1], va [ci a2, ci a3], .sv (.one (.rptr [ci a4] 0)), .sv (.one (.rptr [ci a5] 0))] : P) = f := by
 obtain ⟨K, rfl⟩ := pos_of_le h
 funext a0 a1 a2 a3 a4 a5
 unfold f
 rw [← qfhz.k (dk h), ← qdoz.k (dk h)]
 exact PI_at Cx (by kernel_rfl)
end qcjz
namespace qbjz
abbrev P := Int → Int → Int → Int → List (Int × Int) → Option Int
def f : P := fun a0 a1 a2 a3 a4 => ix a0 a4 <| ix a1 a4 <| (qcjz.f (rd (0, 0) a4 a0).1 (rd (0, 0) a4 a0).2 (rd (0, 0) a4 a1).1 (rd (0, 0) a4 a1).2 a2 a3).bind fun t0 =>
 some t0
theorem k {K : Nat} (h : 4 ≤ K) : (fun a0 a1 a2 a3 a4 => PI Cx K 277 [vi a0, vi a1, .sv (.one (.rptr [.fn 245 [.rptr [ci a2] 0, .rptr [ci a3] 0]] 0)), .sv (.one (.rptr [.sl 74 (.pair i6 i6) a4] 0))] : P) = f := by
 obtain ⟨K, rfl⟩ := pos_of_le h
 funext a0 a1 a2 a3 a4
 unfold f
 rw [← qcjz.k (dk h)]
 exact PI_at Cx (by kernel_rfl)
end qbjz
namespace qakz
def f (k : Fu) (a0 : List Int) (a1 a2 a3 a4 : Int) (a5 : List (Int × Int)) : Option (List Int) := PI Cx (k 0) 305 [.sv (.one (.frow 3 i6 a0)), vi a1, vi a2, .sv (.one (.fn 277 [.rptr [.fn 245 [.rptr [ci a3] 0, .rptr [ci a4] 0]] 0, .rptr [.sl 74 (.pair i6 i6) a5] 0]))]
def l0 (k : Fu) (x0 x1 x2 x3 : Int) (x4 : List (Int × Int)) (x5 : Int) (x6 : List Int) : Option (List Int) := runAt Cx (k 0) 305 [tt, tt] [k 1] ⟨[(0, vf 9000000000000001), (1, vi x0), (2, vi x1), (3, .sv (.one (.fn 277 [.rptr [.fn 245 [.rptr [ci x2] 0, .rptr [ci x3] 0]] 0, .rptr [.sl 74 (.pair i6 i6) x4] 0]))), (8, vi x5)], [(9000000000000001, .row 3 i6 x6 .lent)], []⟩
def l1 (k : Fu) (x0 x1 x2 x3 : Int) (x4 : List (Int × Int)) (x5 x6 : Int) (x7 : List Int) : Option (List Int) := runAt Cx (k 0) 305 [tt, tt, tt, tt, ff, tt, tt, tt] [k 1, k 2] ⟨[(0, vf 9000000000000001), (1, vi x0), (2, vi x1), (3, .sv (.one (.fn 277 [.rptr [.fn 245 [.rptr [ci x2] 0, .rptr [ci x3] 0]] 0, .rptr [.sl 74 (.pair i6 i6) x4] 0]))), (8, vi x5), (9, vi x6)], [(9000000000000001, .row 3 i6 x7 .lent)], []⟩
theorem v {a0 : List Int} {a1 a2 a3 a4 : Int} {a5 : List (Int × Int)} {r} (h : Ev (fun k => l0 k a1 a2 a3 a4 a5 (W (a1 + 1)) a0) r) : Ev (fun k => f k a0 a1 a2 a3 a4 a5) r := evf (fun _ _ _ => PI_at Cx (by kernel_rfl)) h
theorem v0 {x0 x1 x2 x3 : Int} {x4 : List (Int × Int)} {x5 : Int} {x6 : List Int} {r} (h : Ev (fun k => if (iLt x5 x1) then l1 k x0 x1 x2 x3 x4 x5 x5 x6 else some x6) r) : Ev (fun k => l0 k x0 x1 x2 x3 x4 x5 x6) r := evl [] 0 (fun _ _ _ => by kernel_rfl) h
theorem v1 {x0 x1 x2 x3 : Int} {x4 : List (Int × Int)} {x5 x6 : Int} {x7 : List Int} {r} (h : Ev (fun k => if (iGt x6 x0) then ix x6 x7 <| ix (W (x6 - 1)) x7 <| (qbjz.f (rd 0 x7 x6) (rd 0 x7 (W (x6 - 1))) x2 x3 x4).bind fun t0 =>
 if (iLt t0 0) then ix (W (x6 - 1)) x7 <| ix x6 x7 <| ix x6 x7 <| ix (W (x6 - 1)) (List.set x7 (Int.toNat x6) (rd 0 x7 (W (x6 - 1)))) <| l1 k x0 x1 x2 x3 x4 x5 (W (x6 - 1)) (List.set (List.set x7 (Int.toNat x6) (rd 0 x7 (W (x6 - 1)))) (Int.toNat (W (x6 - 1))) (rd 0 x7 x6)) else l0 k x0 x1 x2 x3 x4 (W (x5 + 1)) x7 else l0 k x0 x1 x2 x3 x4 (W (x5 + 1)) x7) r) : Ev (fun k => l1 k x0 x1 x2 x3 x4 x5 x6 x7) r := evl [1] 1 (fun _ _ h => by rw [← qbjz.k (dl h)]; kernel_rfl) h
end qakz
namespace qasz
def f (k : Fu) (a0 : List Int) (a1 a2 a3 a4 a5 : Int) (a6 : List (Int × Int)) : Option (List Int) := PI Cx (k 0) 306 [.sv (.one (.frow 3 i6 a0)), vi a1, vi a2, vi a3, .sv (.one (.fn 277 [.rptr [.fn 245 [.rptr [ci a4] 0, .rptr [ci a5] 0]] 0, .rptr [.sl 74 (.pair i6 i6) a6] 0]))]
end qasz
namespace qawz
def f (k : Fu) (a0 : List Int) (a1 a2 a3 : Int) (a4 : List (Int × Int)) : Option (List Int) := PI Cx (k 0) 294 [.sv (.one (.frow 3 i6 a0)), vi a1, .sv (.one (.fn 277 [.rptr [.fn 245 [.rptr [ci a2] 0, .rptr [ci a3] 0]] 0, .rptr [.sl 74 (.pair i6 i6) a4] 0]))]
def l0 (k : Fu) (x0 x1 x2 : Int) (x3 : List (Int × Int)) (x4 x5 x6 : Int) (x7 : List Int) : Option (List Int) := runAt Cx (k 0) 294 [tt, tt, ff, tt] [k 1] ⟨[(0, vf 9000000000000001), (1, vi x0), (2, .sv (.one (.fn 277 [.rptr [.fn 245 [.rptr [ci x1] 0, .rptr [ci x2] 0]] 0, .rptr [.sl 74 (.pair i6 i6) x3] 0]))), (6, vi x4), (7, vi x5), (8, vi x6)], [(9000000000000001, .row 3 i6 x7 .lent)], []⟩
def l1 (k : Fu) (x0 x1 x2 : Int) (x3 : List (Int × Int)) (x4 : Int) (x5 : List Int) : Option (List Int) := runAt Cx (k 0) 294 [tt, tt, tt, tt, tt] [k 2] ⟨[(0, vf 9000000000000001), (1, vi x0), (2, .sv (.one (.fn 277 [.rptr [.fn 245 [.rptr [ci x1] 0, .rptr [ci x2] 0]] 0, .rptr [.sl 74 (.pair i6 i6) x3] 0]))), (6, vi x4)], [(9000000000000001, .row 3 i6 x5 .lent)], []⟩
def l2 (k : Fu) (x0 x1 x2 : Int) (x3 : List (Int × Int)) (x4 x5 x6 : Int) (x7 : List Int) : Option (List Int) := runAt Cx (k 0) 294 [tt, tt, tt, tt, tt, tt, tt, tt, tt, ff, tt] [k 2, k 3] ⟨[(0, vf 9000000000000001), (1, vi x0), (2, .sv (.one (.fn 277 [.rptr [.fn 245 [.rptr [ci x1] 0, .rptr [ci x2] 0]] 0, .rptr [.sl 74 (.pair i6 i6) x3] 0]))), (6, vi x4), (7, vi x5), (8, vi x6)], [(9000000000000001, .row 3 i6 x7 .lent)], []⟩
theorem v {a0 : List Int} {a1 a2 a3 : Int} {a4 : List (Int × Int)} {r} (h : Ev (fun k => l0 k a1 a2 a3 a4 20 0 20 a0) r) : Ev (fun k => f k a0 a1 a2 a3 a4) r := evf (fun _ _ _ => PI_at Cx (by kernel_rfl)) h
theorem v0 {x0 x1 x2 : Int} {x3 : List (Int × Int)} {x4 x5 x6 : Int} {x7 : List Int} {r} (h : Ev (fun k => if (iLe x6 x0) then (qakz.f k x7 x5 x6 x1 x2 x3).bind fun t0 =>
 l0 k x0 x1 x2 x3 x4 x6 (W (x6 + x4)) t0 else (qakz.f k x7 x5 x0 x1 x2 x3).bind fun t0 =>
 l1 k x0 x1 x2 x3 x4 t0) r) : Ev (fun k => l0 k x0 x1 x2 x3 x4 x5 x6 x7) r := evl [] 0 (fun _ _ _ => by kernel_rfl) h
theorem v1 {x0 x1 x2 : Int} {x3 : List (Int × Int)} {x4 : Int} {x5 : List Int} {r} (h : Ev (fun k => if (iLt x4 x0) then l2 k x0 x1 x2 x3 x4 0 (W (2 * x4)) x5 else some x5) r) : Ev (fun k => l1 k x0 x1 x2 x3 x4 x5) r := evl [] 1 (fun _ _ _ => by kernel_rfl) h
theorem v2 {x0 x1 x2 : Int} {x3 : List (Int × Int)} {x4 x5 x6 : Int} {x7 : List Int} {r} (h : Ev (fun k => if (iLe x6 x0) then (qasz.f k x7 x5 (W (x5 + x4)) x6 x1 x2 x3).bind fun t0 =>
 l2 k x0 x1 x2 x3 x4 x6 (W (x6 + (W (2 * x4)))) t0 else if (iLt (W (x5 + x4)) x0) then (qasz.f k x7 x5 (W (x5 + x4)) x0 x1 x2 x3).bind fun t0 =>
 l1 k x0 x1 x2 x3 (W (x4 * 2)) t0 else l1 k x0 x1 x2 x3 (W (x4 * 2)) x7) r) : Ev (fun k => l2 k x0 x1 x2 x3 x4 x5 x6 x7) r := evl [2] 2 (fun _ _ _ => by kernel_rfl) h
end qawz
namespace qaoz
def f (k : Fu) (a0 : List Int) (a1 a2 : Int) (a3 : List (Int × Int)) : Option (List Int) := PI Cx (k 0) 276 [.sv (.one (.frow 3 i6 a0)), .sv (.one (.fn 277 [.rptr [.fn 245 [.rptr [ci a1] 0, .rptr [ci a2] 0]] 0, .rptr [.sl 74 (.pair i6 i6) a3] 0]))]
theorem v {a0 : List Int} {a1 a2 : Int} {a3 : List (Int × Int)} {r} (h : Ev (fun k => (qawz.f k a0 (ln a0) a1 a2 a3).bind fun t0 =>
 some t0) r) : Ev (fun k => f k a0 a1 a2 a3) r := evf (fun _ _ _ => PI_at Cx (by kernel_rfl)) h
end qaoz
namespace qbhz
def f (k : Fu) (a0 : List (Int × Int)) (a1 a2 : Int) : Option (List Int) := PI Cx (k 0) 241 [vl 74 (.pair i6 i6) a0, .sv (.one (.fn 245 [.rptr [ci a1] 0, .rptr [ci a2] 0]))]
def l0 (k : Fu) (x0 x1 : Int) (x2 : List (Int × Int)) (x3 x4 : Int) (x5 : List Int) : Option (List Int) := runAt Cx (k 0) 241 [tt, tt, ff, tt, tt] [k 1] ⟨[(2, vp 0 0), (3, vp 1000 0), (5, vf 1000000005000), (11, vi x0), (12, vi x1)], [(0, .box 22 [.sl 74 (.pair i6 i6) x2]), (1000, .box 227 [.fn 245 [.rptr [ci x3] 0, .rptr [ci x4] 0]]), (1000000005000, .row 3 i6 x5 .own)], []⟩
theorem v {a0 : List (Int × Int)} {a1 a2 : Int} {r} (h : Ev (fun k => gd (0 ≤ (ln a0)) <| gd ((ln a0) ≤ (ln a0)) <| gd (((ln a0) * 8) ≤ 140737488355328) <| l0 k (ln (List.replicate (Int.toNat (ln a0)) (0 : Int))) 0 a0 a1 a2 (List.replicate (Int.toNat (ln a0)) (0 : Int))) r) : Ev (fun k => f k a0 a1 a2) r := evf (fun _ _ _ => PI_at Cx (by kernel_rfl)) h
theorem v0 {x0 x1 : Int} {x2 : List (Int × Int)} {x3 x4 : Int} {x5 : List Int} {r} (h : Ev (fun k => if (iLt x1 x0) then ix x1 x5 <| l0 k x0 (W (x1 + 1)) x2 x3 x4 (List.set x5 (Int.toNat x1) x1) else (qaoz.f k x5 x3 x4 x2).bind fun t0 =>
 some t0) r) : Ev (fun k => l0 k x0 x1 x2 x3 x4 x5) r := evl [] 0 (fun _ _ _ => by kernel_rfl) h
end qbhz
namespace qdyz
def f (k : Fu) (a0 : List (Int × Int)) (a1 a2 : Int) : Option ((List Int) × Bool) := PI Cx (k 0) 200 [vl 74 (.pair i6 i6) a0, vi a1, vi a2]
theorem v {a0 : List (Int × Int)} {a1 a2 : Int} {r} (h : Ev (fun k => (qdtz.f k a0).bind fun t0 =>
 if (!t0) then some ([], false) else (qhiz.f a1 a2).bind fun t1 =>
 if (!t1) then some ([], false) else (qbhz.f k a0 a1 a2).bind fun t2 =>
 some (t2, true)) r) : Ev (fun k => f k a0 a1 a2) r := evf (fun _ _ h => by rw [← qhiz.k (dl h)]; exact PI_at Cx (by kernel_rfl)) h
end qdyz
namespace qduz
def f (k : Fu) (a0 : Int) (a1 : List (Int × Int)) : Option (Int × (Int × Bool)) := PI Cx (k 0) 202 [vi a0, vl 74 (.pair i6 i6) a1]
def l0 (k : Fu) (x0 x1 : Int) (x2 : List (Int × Int)) (x3 x4 : Int) : Option (Int × (Int × Bool)) := runAt Cx (k 0) 202 [tt, tt, tt, ff, tt, tt] [k 1] ⟨[(0, vi x0), (7, vi x1), (20, vl 74 (.pair i6 i6) x2), (21, vi x3), (22, vi x4)], [], []⟩
theorem v {a0 : Int} {a1 : List (Int × Int)} {r} (h : Ev (fun k => (qhaz.f a0).bind fun t0 =>
 if (!t0) then some (0, (0, false)) else (qdtz.f k a1).bind fun t1 =>
 if (!t1) then some (0, (0, false)) else l0 k a0 0 a1 (ln a1) 0) r) : Ev (fun k => f k a0 a1) r := evf (fun _ _ h => by rw [← qhaz.k (dl h)]; exact PI_at Cx (by kernel_rfl)) h
theorem v0 {x0 x1 : Int} {x2 : List (Int × Int)} {x3 x4 : Int} {r} (h : Ev (fun k => if (iLt x4 x3) then ix x4 x2 <| (qhtz.f (rd (0, 0) x2 x4).2).bind fun t0 =>
 (qelz.f k x1 t0).bind fun t1 =>
 l0 k x0 t1 x2 x3 (W (x4 + 1)) else if (x1 == 0) then some (0, (0, false)) else (qgyz.f k x0 x1).bind fun t0 =>
 some (t0.1, (t0.2, true))) r) : Ev (fun k => l0 k x0 x1 x2 x3 x4) r := evl [] 0 (fun _ _ h => by rw [← qhtz.k (dl h)]; kernel_rfl) h
end qduz
namespace qhyz
def f (k : Fu) (a0 a1 : Int) (a2 : Bool) : Option (BA × Bool) := PI Cx (k 0) 201 [vi a0, vi a1, vb a2]
theorem v {a0 a1 : Int} {a2 : Bool} {r} (h : Ev (fun k => (qcxz.f k [a0, a1] (bs [47])).bind fun t0 =>
 some (t0, a2)) r) : Ev (fun k => f k a0 a1 a2) r := evf (fun _ _ _ => PI_at Cx (by kernel_rfl)) h
end qhyz
namespace qcpz
def f (k : Fu) (a0 a1 a2 a3 : Int) : Option (Int × (Int × Bool)) := PI Cx (k 0) 58 [va [ci a0, ci a1], va [ci a2, ci a3]]
theorem v {a0 a1 a2 a3 : Int} {r} (h : Ev (fun k => (qexz.f a0 a1).bind fun t0 =>
 if (!t0) then some (0, (0, false)) else (qexz.f a2 a3).bind fun t1 =>
 if (!t1) then some (0, (0, false)) else (qddz.f k a0 a1 a2 a3).bind fun t2 =>
 some t2) r) : Ev (fun k => f k a0 a1 a2 a3) r := evf (fun _ _ h => by rw [← qexz.k (dl h)]; exact PI_at Cx (by kernel_rfl)) h
end qcpz
namespace qcbz
def f (k : Fu) (a0 a1 a2 a3 : Int) : Option (Int × (Int × Bool)) := PI Cx (k 0) 59 [va [ci a0, ci a1], va [ci a2, ci a3]]
theorem v {a0 a1 a2 a3 : Int} {r} (h : Ev (fun k => (qexz.f a0 a1).bind fun t0 =>
 if (!t0) then some (0, (0, false)) else (qexz.f a2 a3).bind fun t1 =>
 if (!t1) then some (0, (0, false)) else (qddz.f k a0 a1 a2 a3).bind fun t2 =>
 if (!t2.2.2) then some (0, (0, false)) else (qfhz.f a0 a1 t2.1 t2.2.1).bind fun t3 =>
 (qgyz.f k t3 t2.2.1).bind fun t4 =>
 some (t4.1, (t4.2, true))) r) : Ev (fun k => f k a0 a1 a2 a3) r := evf (fun _ _ h => by rw [← qexz.k (dl h), ← qfhz.k (dl h)]; exact PI_at Cx (by kernel_rfl)) h
end qcbz
namespace qetz
abbrev P := Int → Int → Option Int
def f : P := fun a0 a1 => if a1 = 0 then none else if a1 = 0 then none else if (iLt (Int.tmod a0 a1) 0) then some (W ((W (Int.tdiv a0 a1)) - 1)) else some (W (Int.tdiv a0 a1))
theorem k {K : Nat} (h : 1 ≤ K) : (fun a0 a1 => PI Cx K 307 [vi a0, vi a1] : P) = f := by
 obtain ⟨K, rfl⟩ := pos_of_le h
 funext a0 a1
 exact PI_at Cx (by kernel_rfl)
end qetz
namespace qhfz
abbrev P := Int → Int → Option Int
def f : P := fun a0 a1 => (qetz.f a0 a1).bind fun t0 =>
 some (W (a0 - (W (a1 * t0))))
theorem k {K : Nat} (h : 2 ≤ K) : (fun a0 a1 => PI Cx K 295 [vi a0, vi a1] : P) = f := by
 obtain ⟨K, rfl⟩ := pos_of_le h
 funext a0 a1
 unfold f
 rw [← qetz.k (dk h)]
 exact PI_at Cx (by kernel_rfl)
end qhfz
namespace qfnz
abbrev P := Int → Int → Int → Int → Int → Option (Int × Int)
def f : P := fun a0 a1 a2 a3 a4 => if (iLt a2 a4) then (qhfz.f (W (a1 - a3)) a0).bind fun t0 =>
 some (t0, (W (a4 - a2))) else (qhfz.f (W (a3 - a1)) a0).bind fun t0 =>
 some (t0, (W (a2 - a4)))
theorem k {K : Nat} (h : 3 ≤ K) : (fun a0 a1 a2 a3 a4 => PI Cx K 278 [vi a0, va [ci a1, ci a2], va [ci a3, ci a4]] : P) = f := by
 obtain ⟨K, rfl⟩ := pos_of_le h
 funext a0 a1 a2 a3 a4
 unfold f
 rw [← qhfz.k (dk h)]
 exact PI_at Cx (by kernel_rfl)
end qfnz
namespace qenz
def f (k : Fu) (a0 a1 a2 a3 a4 : Int) : Option (Int × (Int × Bool)) := PI Cx (k 0) 246 [vi a0, va [ci a1, ci a2], va [ci a3, ci a4]]
theorem v {a0 a1 a2 a3 a4 : Int} {r} (h : Ev (fun k => (qhaz.f a0).bind fun t0 =>
 if (!t0) then some (0, (0, false)) else (qexz.f a1 a2).bind fun t1 =>
 if (!t1) then some (0, (0, false)) else (qexz.f a3 a4).bind fun t2 =>
 if (!t2) then some (0, (0, false)) else (qfnz.f a0 a1 a2 a3 a4).bind fun t3 =>
 if (t3.2 == 0) then if (iGt t3.1 0) then some (0, (0, false)) else if (t3.2 == 0) then some (0, (1, true)) else (qgyz.f k t3.1 t3.2).bind fun t4 =>
 some (t4.1, (t4.2, true)) else if (t3.2 == 0) then some (0, (1, true)) else (qgyz.f k t3.1 t3.2).bind fun t4 =>
 some (t4.1, (t4.2, true))) r) : Ev (fun k => f k a0 a1 a2 a3 a4) r := evf (fun _ _ h => by rw [← qhaz.k (dl h), ← qexz.k (dl h), ← qfnz.k (dl h)]; exact PI_at Cx (by kernel_rfl)) h
end qenz
namespace qfyz
def f (k : Fu) (a0 a1 a2 a3 a4 : Int) : Option (Int × (Int × Bool)) := PI Cx (k 0) 247 [vi a0, va [ci a1, ci a2], va [ci a3, ci a4]]
theorem v {a0 a1 a2 a3 a4 : Int} {r} (h : Ev (fun k => (qhaz.f a0).bind fun t0 =>
 if (!t0) then some (0, (0, false)) else (qexz.f a1 a2).bind fun t1 =>
 if (!t1) then some (0, (0, false)) else (qexz.f a3 a4).bind fun t2 =>
 if (!t2) then some (0, (0, false)) else if (a2 == a4) then some (0, (0, false)) else (qhtz.f (W (a2 - a4))).bind fun t3 =>
 (qgyz.f k a0 t3).bind fun t4 =>
 some (t4.1, (t4.2, true))) r) : Ev (fun k => f k a0 a1 a2 a3 a4) r := evf (fun _ _ h => by rw [← qhaz.k (dl h), ← qexz.k (dl h), ← qhtz.k (dl h)]; exact PI_at Cx (by kernel_rfl)) h
end qfyz
namespace qdjz
def f (k : Fu) (a0 a1 a2 a3 a4 : Int) : Option (List (List Int)) := PI Cx (k 0) 279 [vi a0, va [ci a1, ci a2], va [ci a3, ci a4]]
def l0 (k : Fu) (x0 x1 x2 x3 x4 x5 x6 : Int) (x7 : List Int) : Option (List (List Int)) := runAt Cx (k 0) 279 [tt, tt, tt, ff, tt, tt] [k 1] ⟨[(0, vi x0), (4, vp 0 0), (7, vi x1), (8, vi x2), (9, vf 1000000009000), (23, vi x3), (24, vi x4)], [(0, .box 74 [ci x5, ci x6]), (1000000009000, .row 3 i6 x7 .own)], []⟩
def l1 (k : Fu) (x0 x1 x2 : Int) (x3 : List (List Int)) (x4 : List Int) : Option (List (List Int)) := runAt Cx (k 0) 279 [tt, tt, tt, tt, tt, tt, ff, tt, tt] [k 2] ⟨[(8, vi x0), (11, vf 1000000011000), (51, vf 1000000051000), (52, vi x1), (53, vi x2)], [(1000000011000, .row 44 (.sl 3 i6) x3 .own), (1000000051000, .row 3 i6 x4 .own)], []⟩
theorem v {a0 a1 a2 a3 a4 : Int} {r} (h : Ev (fun k => (qfnz.f a0 a1 a2 a3 a4).bind fun t0 =>
 l0 k a0 t0.1 t0.2 t0.2 0 a1 a2 []) r) : Ev (fun k => f k a0 a1 a2 a3 a4) r := evf (fun _ _ h => by rw [← qfnz.k (dl h)]; exact PI_at Cx (by kernel_rfl)) h
theorem v0 {x0 x1 x2 x3 x4 x5 x6 : Int} {x7 : List Int} {r} (h : Ev (fun k => if (iLt x4 x3) then (qhfz.f (W ((W (x5 * x2)) + (W (x6 * (W (x1 + (W (x4 * x0)))))))) (W (x0 * x2))).bind fun t0 =>
 gd (((lnN x7) + 1) ≤ 17592186044416) <| l0 k x0 x1 x2 x3 (W (x4 + 1)) x5 x6 (x7 ++ [t0]) else gd (0 < (ln x7)) <| gd ((ln x7) ≤ 5000000000000) <| gd (0 < (ln (sortL x7))) <| gd ((ln (sortL x7)) ≤ 5000000000000) <| l1 k x2 (ln (compactL (sortL x7))) 0 [] (compactL (sortL x7))) r) : Ev (fun k => l0 k x0 x1 x2 x3 x4 x5 x6 x7) r := evl [] 0 (fun _ _ h => by rw [← qhfz.k (dl h)]; kernel_rfl) h
theorem v1 {x0 x1 x2 : Int} {x3 : List (List Int)} {x4 : List Int} {r} (h : Ev (fun k => if (iLt x2 x1) then ix x2 x4 <| (qgyz.f k (rd 0 x4 x2) x0).bind fun t0 =>
 gd (((lnN x3) + 1) ≤ 5864062014805) <| l1 k x0 x1 (W (x2 + 1)) (x3 ++ [[t0.1, t0.2]]) x4 else some x3) r) : Ev (fun k => l1 k x0 x1 x2 x3 x4) r := evl [] 1 (fun _ _ _ => by kernel_rfl) h
end qdjz
namespace qdmz
def f (k : Fu) (a0 a1 a2 a3 a4 : Int) : Option ((List (List Int)) × Bool) := PI Cx (k 0) 248 [vi a0, va [ci a1, ci a2], va [ci a3, ci a4]]
theorem v {a0 a1 a2 a3 a4 : Int} {r} (h : Ev (fun k => (qhaz.f a0).bind fun t0 =>
 if (!t0) then some ([], false) else (qexz.f a1 a2).bind fun t1 =>
 if (!t1) then some ([], false) else (qexz.f a3 a4).bind fun t2 =>
 if (!t2) then some ([], false) else if (a2 == a4) then some ([], false) else (qdjz.f k a0 a1 a2 a3 a4).bind fun t3 =>
 some (t3, true)) r) : Ev (fun k => f k a0 a1 a2 a3 a4) r := evf (fun _ _ h => by rw [← qhaz.k (dl h), ← qexz.k (dl h)]; exact PI_at Cx (by kernel_rfl)) h
end qdmz
namespace qhsz
def f (k : Fu) (a0 : List (List Int)) (a1 a2 : BA) (a3 : Bool) : Option (BA × Bool) := PI Cx (k 0) 249 [vl 44 (.sl 3 i6) a0, vs a1, vs a2, vb a3]
def l0 (k : Fu) (x0 x1 : BA) (x2 : Bool) (x3 : List (List Int)) (x4 x5 : Int) (x6 : List BA) : Option (BA × Bool) := runAt Cx (k 0) 249 [tt, tt, tt, ff, tt, tt] [k 1] ⟨[(1, vs x0), (2, vs x1), (3, vb x2), (10, vf 1000000010000), (20, vl 44 (.sl 3 i6) x3), (21, vi x4), (22, vi x5)], [(1000000010000, .row 9 .str x6 .own)], []⟩
theorem v {a0 : List (List Int)} {a1 a2 : BA} {a3 : Bool} {r} (h : Ev (fun k => if ((ln a0) == 0) then some ((bs [45]), a3) else gd (0 ≤ (ln a0)) <| gd ((ln a0) ≤ (ln a0)) <| gd (((ln a0) * 16) ≤ 140737488355328) <| l0 k a1 a2 a3 a0 (ln a0) 0 (List.replicate (Int.toNat (ln a0)) (bs []))) r) : Ev (fun k => f k a0 a1 a2 a3) r := evf (fun _ _ _ => PI_at Cx (by kernel_rfl)) h
theorem v0 {x0 x1 : BA} {x2 : Bool} {x3 : List (List Int)} {x4 x5 : Int} {x6 : List BA} {r} (h : Ev (fun k => if (iLt x5 x4) then ix x5 x3 <| (qcxz.f k (rd [] x3 x5) x0).bind fun t0 =>
 ix x5 x6 <| l0 k x0 x1 x2 x3 x4 (W (x5 + 1)) (List.set x6 (Int.toNat x5) t0) else (qgaz.f x6 x1).bind fun t0 =>
 some (t0, x2)) r) : Ev (fun k => l0 k x0 x1 x2 x3 x4 x5 x6) r := evl [] 0 (fun _ _ h => by rw [← qgaz.k (dl h)]; kernel_rfl) h
end qhsz
namespace qcez
def f (k : Fu) (a0 : List (Int × Int)) (a1 : Int) (a2 : BA) (a3 a4 a5 a6 : Int) : Option (BA × Bool) := PI Cx (k 0) 203 [va [.sl 74 (.pair i6 i6) a0, ci a1], vs a2, va [ci a3, ci a4], va [ci a5, ci a6]]
theorem v {a0 : List (Int × Int)} {a1 : Int} {a2 : BA} {a3 a4 a5 a6 : Int} {r} (h : Ev (fun k => if (seq a2 (bs [109, 101, 101, 116])) then (qcpz.f k a3 a4 a5 a6).bind fun t0 =>
 (qhyz.f k t0.1 t0.2.1 t0.2.2).bind fun t1 =>
 some t1 else if (seq a2 (bs [119, 104, 101, 114, 101])) then (qcbz.f k a3 a4 a5 a6).bind fun t0 =>
 (qhyz.f k t0.1 t0.2.1 t0.2.2).bind fun t1 =>
 some t1 else if (seq a2 (bs [97, 114, 111, 117, 110, 100])) then (qenz.f k a1 a3 a4 a5 a6).bind fun t0 =>
 (qhyz.f k t0.1 t0.2.1 t0.2.2).bind fun t1 =>
 some t1 else if (seq a2 (bs [103, 97, 112])) then (qfyz.f k a1 a3 a4 a5 a6).bind fun t0 =>
 (qhyz.f k t0.1 t0.2.1 t0.2.2).bind fun t1 =>
 some t1 else (qdmz.f k a1 a3 a4 a5 a6).bind fun t0 =>
 (qhsz.f k t0.1 (bs [47]) (bs [44]) t0.2).bind fun t1 =>
 some t1) r) : Ev (fun k => f k a0 a1 a2 a3 a4 a5 a6) r := evf (fun _ _ _ => PI_at Cx (by kernel_rfl)) h
end qcez
namespace qdiz
def f (k : Fu) (a0 a1 a2 a3 : Int) : Option (Int × (Int × Bool)) := PI Cx (k 0) 250 [va [ci a0, ci a1, ci a2, ci a3]]
theorem v {a0 a1 a2 a3 : Int} {r} (h : Ev (fun k => (qflz.f a0 a1 a2 a3).bind fun t0 =>
 if (!t0) then some (0, (0, false)) else (qgyz.f k a0 (W (a1 + a2))).bind fun t1 =>
 some (t1.1, (t1.2, true))) r) : Ev (fun k => f k a0 a1 a2 a3) r := evf (fun _ _ h => by rw [← qflz.k (dl h)]; exact PI_at Cx (by kernel_rfl)) h
end qdiz
namespace qdez
def f (k : Fu) (a0 a1 a2 a3 : Int) : Option (Int × (Int × Bool)) := PI Cx (k 0) 251 [va [ci a0, ci a1, ci a2, ci a3]]
theorem v {a0 a1 a2 a3 : Int} {r} (h : Ev (fun k => (qflz.f a0 a1 a2 a3).bind fun t0 =>
 if (!t0) then some (0, (0, false)) else (qgyz.f k (W (a3 * a0)) (W (a1 + a2))).bind fun t1 =>
 some (t1.1, (t1.2, true))) r) : Ev (fun k => f k a0 a1 a2 a3) r := evf (fun _ _ h => by rw [← qflz.k (dl h)]; exact PI_at Cx (by kernel_rfl)) h
end qdez
namespace qglz
abbrev P := Int → Option Bool
def f : P := fun a0 => (qgwz.f a0 1 6).bind fun t0 =>
 some t0
theorem k {K : Nat} (h : 2 ≤ K) : (fun a0 => PI Cx K 280 [vi a0] : P) = f := by
 obtain ⟨K, rfl⟩ := pos_of_le h
 funext a0
 unfold f
 rw [← qgwz.k (dk h)]
 exact PI_at Cx (by kernel_rfl)
end qglz
namespace qfqz
def f (k : Fu) (a0 a1 a2 a3 a4 : Int) : Option (Int × Int) := PI Cx (k 0) 281 [va [ci a0, ci a1, ci a2, ci a3], vi a4]
def l0 (k : Fu) (x0 x1 x2 x3 x4 x5 x6 x7 : Int) : Option (Int × Int) := runAt Cx (k 0) 281 [tt, tt, ff, tt, tt] [k 1] ⟨[(2, vp 0 0), (6, vi x0), (7, vi x1), (11, vi x2), (12, vi x3)], [(0, .box 108 [ci x4, ci x5, ci x6, ci x7])], []⟩
theorem v {a0 a1 a2 a3 a4 : Int} {r} (h : Ev (fun k => l0 k a0 1 a4 0 a0 a1 a2 a3) r) : Ev (fun k => f k a0 a1 a2 a3 a4) r := evf (fun _ _ _ => PI_at Cx (by kernel_rfl)) h
theorem v0 {x0 x1 x2 x3 x4 x5 x6 x7 : Int} {r} (h : Ev (fun k => if (iLt x3 x2) then if ((Int.tmod x3 2) == 0) then l0 k (W (x0 * (W (x7 - x5)))) (W (x1 * (W (x7 + x6)))) x2 (W (x3 + 1)) x4 x5 x6 x7 else l0 k (W (x0 * (W (x7 - x6)))) (W (x1 * (W (x7 + x5)))) x2 (W (x3 + 1)) x4 x5 x6 x7 else some (x0, x1)) r) : Ev (fun k => l0 k x0 x1 x2 x3 x4 x5 x6 x7) r := evl [] 0 (fun _ _ _ => by kernel_rfl) h
end qfqz
namespace qbnz
def f (k : Fu) (a0 a1 a2 a3 a4 : Int) : Option (Int × (Int × Bool)) := PI Cx (k 0) 252 [va [ci a0, ci a1, ci a2, ci a3], vi a4]
theorem v {a0 a1 a2 a3 a4 : Int} {r} (h : Ev (fun k => (qflz.f a0 a1 a2 a3).bind fun t0 =>
 if (!t0) then some (0, (0, false)) else (qglz.f a4).bind fun t1 =>
 if (!t1) then some (0, (0, false)) else (qfqz.f k a0 a1 a2 a3 a4).bind fun t2 =>
 (qgyz.f k t2.1 t2.2).bind fun t3 =>
 some (t3.1, (t3.2, true))) r) : Ev (fun k => f k a0 a1 a2 a3 a4) r := evf (fun _ _ h => by rw [← qflz.k (dl h), ← qglz.k (dl h)]; exact PI_at Cx (by kernel_rfl)) h
end qbnz
namespace qgfz
def f (k : Fu) (a0 : List (Int × Int)) : Option (Int × Int) := PI Cx (k 0) 114 [vl 88 (.pair i6 i6) a0]
def l0 (k : Fu) (x0 x1 : Int) (x2 : List (Int × Int)) (x3 x4 : Int) : Option (Int × Int) := runAt Cx (k 0) 114 [tt, tt, ff, tt, tt] [k 1] ⟨[(4, vi x0), (5, vi x1), (8, vl 88 (.pair i6 i6) x2), (9, vi x3), (10, vi x4)], [], []⟩
theorem v {a0 : List (Int × Int)} {r} (h : Ev (fun k => l0 k 0 1 a0 (ln a0) 0) r) : Ev (fun k => f k a0) r := evf (fun _ _ _ => PI_at Cx (by kernel_rfl)) h
theorem v0 {x0 x1 : Int} {x2 : List (Int × Int)} {x3 x4 : Int} {r} (h : Ev (fun k => if (iLt x4 x3) then ix x4 x2 <| (qgyz.f k (W ((W (x0 * (rd (0, 0) x2 x4).2)) + (W ((rd (0, 0) x2 x4).1 * x1)))) (W (x1 * (rd (0, 0) x2 x4).2))).bind fun t0 =>
 l0 k t0.1 t0.2 x2 x3 (W (x4 + 1)) else some (x0, x1)) r) : Ev (fun k => l0 k x0 x1 x2 x3 x4) r := evl [] 0 (fun _ _ _ => by kernel_rfl) h
end qgfz
namespace qgpz
def f (k : Fu) (a0 : List (Int × Int)) : Option Int := PI Cx (k 0) 116 [vl 88 (.pair i6 i6) a0]
def l0 (k : Fu) (x0 : Int) (x1 : List (Int × Int)) (x2 x3 : Int) : Option Int := runAt Cx (k 0) 116 [tt, tt, ff, tt, tt] [k 1] ⟨[(3, vi x0), (6, vl 88 (.pair i6 i6) x1), (7, vi x2), (8, vi x3)], [], []⟩
theorem v {a0 : List (Int × Int)} {r} (h : Ev (fun k => l0 k 0 a0 (ln a0) 0) r) : Ev (fun k => f k a0) r := evf (fun _ _ _ => PI_at Cx (by kernel_rfl)) h
theorem v0 {x0 : Int} {x1 : List (Int × Int)} {x2 x3 : Int} {r} (h : Ev (fun k => if (iLt x3 x2) then ix x3 x1 <| l0 k (W (x0 + (rd (0, 0) x1 x3).1)) x1 x2 (W (x3 + 1)) else some x0) r) : Ev (fun k => l0 k x0 x1 x2 x3) r := evl [] 0 (fun _ _ _ => by kernel_rfl) h
end qgpz
namespace qffz
def f (k : Fu) (a0 a1 : Int) : Option (Int × (Int × Bool)) := PI Cx (k 0) 115 [vi a0, vi a1]
theorem v {a0 a1 : Int} {r} (h : Ev (fun k => if (a1 == 0) then some (0, (0, false)) else (qgyz.f k a0 a1).bind fun t0 =>
 some (t0.1, (t0.2, true))) r) : Ev (fun k => f k a0 a1) r := evf (fun _ _ _ => PI_at Cx (by kernel_rfl)) h
end qffz
namespace qejz
def f (k : Fu) (a0 : List (Int × Int)) : Option (Int × (Int × Bool)) := PI Cx (k 0) 64 [vl 88 (.pair i6 i6) a0]
theorem v {a0 : List (Int × Int)} {r} (h : Ev (fun k => (qfsz.f k a0).bind fun t0 =>
 if (!t0) then some (0, (0, false)) else (qgfz.f k a0).bind fun t1 =>
 (qgpz.f k a0).bind fun t2 =>
 (qffz.f k (W (t2 * t1.2)) t1.1).bind fun t3 =>
 some t3) r) : Ev (fun k => f k a0) r := evf (fun _ _ _ => PI_at Cx (by kernel_rfl)) h
end qejz
namespace qdsz
def f (k : Fu) (a0 : List (Int × Int)) : Option (Int × (Int × Bool)) := PI Cx (k 0) 253 [vl 88 (.pair i6 i6) a0]
theorem v {a0 : List (Int × Int)} {r} (h : Ev (fun k => (qfsz.f k a0).bind fun t0 =>
 if (!t0) then some (0, (0, false)) else (qgfz.f k a0).bind fun t1 =>
 some (t1.1, (t1.2, true))) r) : Ev (fun k => f k a0) r := evf (fun _ _ _ => PI_at Cx (by kernel_rfl)) h
end qdsz
namespace qcvz
def f (k : Fu) (a0 : List (Int × Int)) (a1 a2 : Int) : Option (Int × (Int × Bool)) := PI Cx (k 0) 254 [vl 88 (.pair i6 i6) a0, vi a1, vi a2]
theorem v {a0 : List (Int × Int)} {a1 a2 : Int} {r} (h : Ev (fun k => (qfsz.f k a0).bind fun t0 =>
 if (!t0) then some (0, (0, false)) else (qhjz.f a1).bind fun t1 =>
 if (!t1) then some (0, (0, false)) else (qgjz.f a2).bind fun t2 =>
 if (!t2) then some (0, (0, false)) else (qgfz.f k a0).bind fun t3 =>
 (qgpz.f k a0).bind fun t4 =>
 if (iLe (W ((W ((W (t4 + a1)) * t3.2)) - (W (t3.1 * a2)))) 0) then some (0, (0, false)) else (qffz.f k (W ((W (a1 * a2)) * t3.2)) (W ((W ((W (t4 + a1)) * t3.2)) - (W (t3.1 * a2))))).bind fun t5 =>
 some t5) r) : Ev (fun k => f k a0 a1 a2) r := evf (fun _ _ h => by rw [← qhjz.k (dl h), ← qgjz.k (dl h)]; exact PI_at Cx (by kernel_rfl)) h
end qcvz
namespace qcgz
def f (k : Fu) (a0 : List (Int × Int)) : Option ((List (List Int)) × Bool) := PI Cx (k 0) 255 [vl 155 (.pair i6 i6) a0]
def l0 (k : Fu) (x0 x1 : List (Int × Int)) (x2 x3 : Int) (x4 : List (List Int)) : Option ((List (List Int)) × Bool) := runAt Cx (k 0) 255 [tt, tt, tt, ff, tt, tt] [k 1] ⟨[(0, vl 155 (.pair i6 i6) x0), (4, vf 1000000004000), (12, vl 155 (.pair i6 i6) x1), (13, vi x2), (14, vi x3)], [(1000000004000, .row 44 (.sl 3 i6) x4 .own)], []⟩
def l1 (k : Fu) (x0 : List (Int × Int)) (x1 x2 : Int) (x3 : List (Int × Int)) (x4 x5 : Int) (x6 : List (List Int)) (x7 x8 : Int) : Option ((List (List Int)) × Bool) := runAt Cx (k 0) 255 [tt, tt, tt, ff, tt, tt, tt, tt, tt, ff, tt, tt, tt, tt] [k 1, k 2] ⟨[(0, vl 155 (.pair i6 i6) x0), (4, vf 1000000004000), (5, vi x1), (6, vp 6003000 0), (7, vi x2), (12, vl 155 (.pair i6 i6) x3), (13, vi x4), (14, vi x5)], [(1000000004000, .row 44 (.sl 3 i6) x6 .own), (6003000, .box 155 [ci x7, ci x8])], []⟩
theorem v {a0 : List (Int × Int)} {r} (h : Ev (fun k => (qeiz.f k a0).bind fun t0 =>
 if (!t0) then some ([], false) else l0 k a0 a0 (ln a0) 0 []) r) : Ev (fun k => f k a0) r := evf (fun _ _ _ => PI_at Cx (by kernel_rfl)) h
theorem v0 {x0 x1 : List (Int × Int)} {x2 x3 : Int} {x4 : List (List Int)} {r} (h : Ev (fun k => if (iLt x3 x2) then ix x3 x1 <| l1 k x0 x3 (W (x3 + 1)) x1 x2 x3 x4 (rd (0, 0) x1 x3).1 (rd (0, 0) x1 x3).2 else some (x4, true)) r) : Ev (fun k => l0 k x0 x1 x2 x3 x4) r := evl [] 0 (fun _ _ _ => by kernel_rfl) h
theorem v1 {x0 : List (Int × Int)} {x1 x2 : Int} {x3 : List (Int × Int)} {x4 x5 : Int} {x6 : List (List Int)} {x7 x8 : Int} {r} (h : Ev (fun k => if (iLt x2 (ln x0)) then ix x2 x0 <| if (iLe x7 (W ((rd (0, 0) x0 x2).1 + (rd (0, 0) x0 x2).2))) then if (iLe (rd (0, 0) x0 x2).1 (W (x7 + x8))) then gd (((lnN x6) + 1) ≤ 5864062014805) <| l1 k x0 x1 (W (x2 + 1)) x3 x4 x5 (x6 ++ [[x1, x2]]) x7 x8 else l1 k x0 x1 (W (x2 + 1)) x3 x4 x5 x6 x7 x8 else l1 k x0 x1 (W (x2 + 1)) x3 x4 x5 x6 x7 x8 else l0 k x0 x3 x4 (W (x5 + 1)) x6) r) : Ev (fun k => l1 k x0 x1 x2 x3 x4 x5 x6 x7 x8) r := evl [1] 1 (fun _ _ _ => by kernel_rfl) h
end qcgz
namespace qbiz
abbrev P := List (Int × Int) → Option (List (Int × Int))
def f : P := fun a0 => gd (a0.length ≤ 8796093022208) (some a0)
theorem k {K : Nat} (h : 1 ≤ K) : (fun a0 => PI Cx K 282 [vl 155 (.pair i6 i6) a0] : P) = f := by
 obtain ⟨K, rfl⟩ := pos_of_le h
 funext a0
 exact PI_at Cx (by kernel_rfl)
end qbiz
end
end Go.Proofs.YtdhkgmhdengnkaaGreatDoor.Dl
