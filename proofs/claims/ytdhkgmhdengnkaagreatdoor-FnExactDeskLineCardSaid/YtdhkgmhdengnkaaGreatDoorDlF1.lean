/- What functions of the program compute. -/
import Derived.Test.YtdhkgmhdengnkaaGreatDoorDlF0
namespace Go.Proofs.YtdhkgmhdengnkaaGreatDoor.Dl
open Go Go.Proofs.YtdhkgmhdengnkaaGreatDoorPi Go.RowKit
set_option maxRecDepth 100000
set_option linter.unusedVariables false
noncomputable section
namespace qdhz
def f (k : Fu) (a0 : Int) (a1 : List (Int × Int)) : Option (Int × (Int × Bool)) := PI Cx (k 0) 160 [vi a0, vl 74 (.pair i6 i6) a1]
def l0 (k : Fu) (x0 x1 : Int) (x2 : List (Int × Int)) (x3 x4 : Int) : Option (Int × (Int × Bool)) := runAt Cx (k 0) 160 [tt, tt, tt, ff, tt, tt] [k 1] ⟨[(0, vi x0), (7, vi x1), (22, vl 74 (.pair i6 i6) x2), (23, vi x3), (24, vi x4)], [], []⟩
def l1 (k : Fu) (x0 x1 x2 : Int) (x3 : List (Int × Int)) (x4 x5 : Int) : Option (Int × (Int × Bool)) := runAt Cx (k 0) 160 [tt, tt, tt, ff, tt, tt, tt, tt, tt, ff, tt, tt, tt, ff, tt] [k 1, k 2] ⟨[(0, vi x0), (10, vi x1), (11, vi x2), (22, vl 74 (.pair i6 i6) x3), (23, vi x4), (24, vi x5)], [], []⟩
theorem v {a0 : Int} {a1 : List (Int × Int)} {r} (h : Ev (fun k => (qhxz.f a0 1 1000).bind fun t0 =>
 if (!t0) then some (0, (0, false)) else (qhrz.f k a1).bind fun t1 =>
 if (!t1) then some (0, (0, false)) else l0 k a0 0 a1 (ln a1) 0) r) : Ev (fun k => f k a0 a1) r := evf (fun _ _ h => by rw [← qhxz.k (dl h)]; exact PI_at Cx (by kernel_rfl)) h
theorem v0 {x0 x1 : Int} {x2 : List (Int × Int)} {x3 x4 : Int} {r} (h : Ev (fun k => if (iLt x4 x3) then ix x4 x2 <| (qhkz.f (rd (0, 0) x2 x4).2).bind fun t0 =>
 l1 k x0 x1 t0 x2 x3 x4 else if (x1 == 0) then some (0, (0, false)) else (qhqz.f k x0 x1).bind fun t0 =>
 some (t0.1, (t0.2, true))) r) : Ev (fun k => l0 k x0 x1 x2 x3 x4) r := evl [] 0 (fun _ _ h => by rw [← qhkz.k (dl h)]; kernel_rfl) h
theorem v1 {x0 x1 x2 : Int} {x3 : List (Int × Int)} {x4 x5 : Int} {r} (h : Ev (fun k => if (iGt x2 0) then if x2 = 0 then none else l1 k x0 x2 (Int.tmod x1 x2) x3 x4 x5 else l0 k x0 x1 x3 x4 (W (x5 + 1))) r) : Ev (fun k => l1 k x0 x1 x2 x3 x4 x5) r := evl [1] 1 (fun _ _ _ => by kernel_rfl) h
end qdhz
namespace qdqz
def f (k : Fu) (a0 a1 a2 a3 : Int) : Option (Int × (Int × Bool)) := PI Cx (k 0) 161 [va [ci a0, ci a1, ci a2, ci a3]]
theorem v {a0 a1 a2 a3 : Int} {r} (h : Ev (fun k => (qhgz.f a0 a1 a2 a3).bind fun t0 =>
 if (!t0) then some (0, (0, false)) else (qhqz.f k a0 (W (a1 + a2))).bind fun t1 =>
 some (t1.1, (t1.2, true))) r) : Ev (fun k => f k a0 a1 a2 a3) r := evf (fun _ _ h => by rw [← qhgz.k (dl h)]; exact PI_at Cx (by kernel_rfl)) h
end qdqz
namespace qdaz
def f (k : Fu) (a0 a1 a2 a3 : Int) : Option (Int × (Int × Bool)) := PI Cx (k 0) 162 [va [ci a0, ci a1, ci a2, ci a3]]
theorem v {a0 a1 a2 a3 : Int} {r} (h : Ev (fun k => (qhgz.f a0 a1 a2 a3).bind fun t0 =>
 if (!t0) then some (0, (0, false)) else (qhqz.f k (W (a0 * a3)) (W (a1 + a2))).bind fun t1 =>
 some (t1.1, (t1.2, true))) r) : Ev (fun k => f k a0 a1 a2 a3) r := evf (fun _ _ h => by rw [← qhgz.k (dl h)]; exact PI_at Cx (by kernel_rfl)) h
end qdaz
namespace qhwz
def f (k : Fu) (a0 a1 a2 a3 a4 : Int) : Option (List (Int × (Int × (Int × (Int × Int))))) := PI Cx (k 0) 220 [va [ci a0, ci a1, ci a2, ci a3], vi a4]
def l0 (k : Fu) (x0 x1 x2 x3 x4 x5 x6 x7 x8 x9 x10 : Int) (x11 : List (Int × (Int × (Int × (Int × Int))))) : Option (List (Int × (Int × (Int × (Int × Int))))) := runAt Cx (k 0) 220 [tt, tt, tt, ff, tt, tt] [k 1] ⟨[(1, vi x0), (2, vp 0 0), (5, vp 1003000 0), (6, vf 1000000006000), (7, vi x1)], [(0, .box 108 [ci x2, ci x3, ci x4, ci x5]), (1003000, .box 205 [ci x6, ci x7, ci x8, ci x9, ci x10]), (1000000006000, .row 205 (.pair i6 (.pair i6 (.pair i6 (.pair i6 i6)))) x11 .own)], []⟩
theorem v {a0 a1 a2 a3 a4 : Int} {r} (h : Ev (fun k => l0 k a4 1 a0 a1 a2 a3 0 0 a0 0 1 [(0, (0, (a0, (0, 1))))]) r) : Ev (fun k => f k a0 a1 a2 a3 a4) r := evf (fun _ _ _ => PI_at Cx (by kernel_rfl)) h
theorem v0 {x0 x1 x2 x3 x4 x5 x6 x7 x8 x9 x10 : Int} {x11 : List (Int × (Int × (Int × (Int × Int))))} {r} (h : Ev (fun k => if (iLe x1 x0) then if ((Int.tmod x1 2) == 0) then (qgcz.f 0 (W (0 - x5))).bind fun t0 =>
 gd (((lnN x11) + 1) ≤ 3518437208883) <| l0 k x0 (W (x1 + 1)) x2 x3 x4 x5 (W ((W (x6 * (W (x5 + x3)))) + x8)) (W ((W (x7 * (W (x5 + x3)))) + (W ((W (0 - x5)) * x8)))) (W (x8 * (W ((W ((W (x5 + x3)) - x3)) - x4)))) (W ((W (x9 * (W (x5 + x3)))) + (W (t0 * x8)))) (W (x10 * (W (x5 + x3)))) (x11 ++ [((W ((W (x6 * (W (x5 + x3)))) + x8)), ((W ((W (x7 * (W (x5 + x3)))) + (W ((W (0 - x5)) * x8)))), ((W (x8 * (W ((W ((W (x5 + x3)) - x3)) - x4)))), ((W ((W (x9 * (W (x5 + x3)))) + (W (t0 * x8)))), (W (x10 * (W (x5 + x3))))))))]) else (qgcz.f 0 x5).bind fun t0 =>
 gd (((lnN x11) + 1) ≤ 3518437208883) <| l0 k x0 (W (x1 + 1)) x2 x3 x4 x5 (W ((W (x6 * (W (x5 + x4)))) + x8)) (W ((W (x7 * (W (x5 + x4)))) + (W (x5 * x8)))) (W (x8 * (W ((W ((W (x5 + x4)) - x3)) - x4)))) (W ((W (x9 * (W (x5 + x4)))) + (W (t0 * x8)))) (W (x10 * (W (x5 + x4)))) (x11 ++ [((W ((W (x6 * (W (x5 + x4)))) + x8)), ((W ((W (x7 * (W (x5 + x4)))) + (W (x5 * x8)))), ((W (x8 * (W ((W ((W (x5 + x4)) - x3)) - x4)))), ((W ((W (x9 * (W (x5 + x4)))) + (W (t0 * x8)))), (W (x10 * (W (x5 + x4))))))))]) else some x11) r) : Ev (fun k => l0 k x0 x1 x2 x3 x4 x5 x6 x7 x8 x9 x10 x11) r := evl [] 0 (fun _ _ h => by rw [← qgcz.k (dl h)]; kernel_rfl) h
end qhwz
namespace qbrz
def f (k : Fu) (a0 a1 a2 a3 a4 : Int) : Option (Int × (Int × Bool)) := PI Cx (k 0) 163 [va [ci a0, ci a1, ci a2, ci a3], vi a4]
theorem v {a0 a1 a2 a3 a4 : Int} {r} (h : Ev (fun k => (qhgz.f a0 a1 a2 a3).bind fun t0 =>
 if (!t0) then some (0, (0, false)) else (qhxz.f a4 1 6).bind fun t1 =>
 if (!t1) then some (0, (0, false)) else (qhwz.f k a0 a1 a2 a3 a4).bind fun t2 =>
 ix a4 t2 <| (qhqz.f k (rd (0, (0, (0, (0, 0)))) t2 a4).2.2.1 (rd (0, (0, (0, (0, 0)))) t2 a4).2.2.2.2).bind fun t3 =>
 some (t3.1, (t3.2, true))) r) : Ev (fun k => f k a0 a1 a2 a3 a4) r := evf (fun _ _ h => by rw [← qhgz.k (dl h), ← qhxz.k (dl h)]; exact PI_at Cx (by kernel_rfl)) h
end qbrz
namespace qgdz
def f (k : Fu) (a0 : List (Int × Int)) : Option (Int × Int) := PI Cx (k 0) 221 [vl 88 (.pair i6 i6) a0]
def l0 (k : Fu) (x0 x1 : Int) (x2 : List (Int × Int)) (x3 x4 : Int) : Option (Int × Int) := runAt Cx (k 0) 221 [tt, tt, ff, tt, tt] [k 1] ⟨[(4, vi x0), (5, vi x1), (8, vl 88 (.pair i6 i6) x2), (9, vi x3), (10, vi x4)], [], []⟩
theorem v {a0 : List (Int × Int)} {r} (h : Ev (fun k => l0 k 0 1 a0 (ln a0) 0) r) : Ev (fun k => f k a0) r := evf (fun _ _ _ => PI_at Cx (by kernel_rfl)) h
theorem v0 {x0 x1 : Int} {x2 : List (Int × Int)} {x3 x4 : Int} {r} (h : Ev (fun k => if (iLt x4 x3) then ix x4 x2 <| (qhqz.f k (W ((W (x0 * (rd (0, 0) x2 x4).2)) + (W ((rd (0, 0) x2 x4).1 * x1)))) (W (x1 * (rd (0, 0) x2 x4).2))).bind fun t0 =>
 l0 k t0.1 t0.2 x2 x3 (W (x4 + 1)) else some (x0, x1)) r) : Ev (fun k => l0 k x0 x1 x2 x3 x4) r := evl [] 0 (fun _ _ _ => by kernel_rfl) h
end qgdz
namespace qhhz
def f (k : Fu) (a0 : List (Int × Int)) : Option Int := PI Cx (k 0) 222 [vl 88 (.pair i6 i6) a0]
def l0 (k : Fu) (x0 : Int) (x1 : List (Int × Int)) (x2 x3 : Int) : Option Int := runAt Cx (k 0) 222 [tt, tt, ff, tt, tt] [k 1] ⟨[(3, vi x0), (6, vl 88 (.pair i6 i6) x1), (7, vi x2), (8, vi x3)], [], []⟩
theorem v {a0 : List (Int × Int)} {r} (h : Ev (fun k => l0 k 0 a0 (ln a0) 0) r) : Ev (fun k => f k a0) r := evf (fun _ _ _ => PI_at Cx (by kernel_rfl)) h
theorem v0 {x0 : Int} {x1 : List (Int × Int)} {x2 x3 : Int} {r} (h : Ev (fun k => if (iLt x3 x2) then ix x3 x1 <| l0 k (W (x0 + (rd (0, 0) x1 x3).1)) x1 x2 (W (x3 + 1)) else some x0) r) : Ev (fun k => l0 k x0 x1 x2 x3) r := evl [] 0 (fun _ _ _ => by kernel_rfl) h
end qhhz
namespace qefz
def f (k : Fu) (a0 : List (Int × Int)) : Option (Int × (Int × Bool)) := PI Cx (k 0) 164 [vl 88 (.pair i6 i6) a0]
theorem v {a0 : List (Int × Int)} {r} (h : Ev (fun k => (qgmz.f k a0).bind fun t0 =>
 if (!t0) then some (0, (0, false)) else (qgdz.f k a0).bind fun t1 =>
 (qhhz.f k a0).bind fun t2 =>
 (qhqz.f k (W (t2 * t1.2)) t1.1).bind fun t3 =>
 some (t3.1, (t3.2, true))) r) : Ev (fun k => f k a0) r := evf (fun _ _ _ => PI_at Cx (by kernel_rfl)) h
end qefz
namespace qdnz
def f (k : Fu) (a0 : List (Int × Int)) : Option (Int × (Int × Bool)) := PI Cx (k 0) 165 [vl 88 (.pair i6 i6) a0]
theorem v {a0 : List (Int × Int)} {r} (h : Ev (fun k => (qgmz.f k a0).bind fun t0 =>
 if (!t0) then some (0, (0, false)) else (qgdz.f k a0).bind fun t1 =>
 some (t1.1, (t1.2, true))) r) : Ev (fun k => f k a0) r := evf (fun _ _ _ => PI_at Cx (by kernel_rfl)) h
end qdnz
namespace qciz
def f (k : Fu) (a0 : List (Int × Int)) (a1 a2 : Int) : Option (Int × (Int × Bool)) := PI Cx (k 0) 166 [vl 88 (.pair i6 i6) a0, vi a1, vi a2]
theorem v {a0 : List (Int × Int)} {a1 a2 : Int} {r} (h : Ev (fun k => (qgmz.f k a0).bind fun t0 =>
 if (!t0) then some (0, (0, false)) else (qhxz.f a1 1 1000).bind fun t1 =>
 if (!t1) then some (0, (0, false)) else (qhxz.f a2 1 100).bind fun t2 =>
 if (!t2) then some (0, (0, false)) else (qgdz.f k a0).bind fun t3 =>
 (qhhz.f k a0).bind fun t4 =>
 if (iLe (W ((W ((W (t4 + a1)) * t3.2)) - (W (t3.1 * a2)))) 0) then some (0, (0, false)) else (qhqz.f k (W ((W (a1 * a2)) * t3.2)) (W ((W ((W (t4 + a1)) * t3.2)) - (W (t3.1 * a2))))).bind fun t5 =>
 some (t5.1, (t5.2, true))) r) : Ev (fun k => f k a0 a1 a2) r := evf (fun _ _ h => by rw [← qhxz.k (dl h)]; exact PI_at Cx (by kernel_rfl)) h
end qciz
namespace qfvz
abbrev P := Int → Int → Option Int
def f : P := fun a0 a1 => if (iLt a0 a1) then some a0 else some a1
theorem k {K : Nat} (h : 1 ≤ K) : (fun a0 a1 => PI Cx K 223 [vi a0, vi a1] : P) = f := by
 obtain ⟨K, rfl⟩ := pos_of_le h
 funext a0 a1
 exact PI_at Cx (by kernel_rfl)
end qfvz
namespace qbzz
def f (k : Fu) (a0 : List (Int × Int)) : Option ((List (List Int)) × Bool) := PI Cx (k 0) 168 [vl 155 (.pair i6 i6) a0]
def l0 (k : Fu) (x0 x1 : List (Int × Int)) (x2 x3 : Int) (x4 : List (List Int)) : Option ((List (List Int)) × Bool) := runAt Cx (k 0) 168 [tt, tt, tt, ff, tt, tt] [k 1] ⟨[(0, vl 155 (.pair i6 i6) x0), (4, vf 1000000004000), (12, vl 155 (.pair i6 i6) x1), (13, vi x2), (14, vi x3)], [(1000000004000, .row 44 (.sl 3 i6) x4 .own)], []⟩
def l1 (k : Fu) (x0 : List (Int × Int)) (x1 x2 : Int) (x3 : List (Int × Int)) (x4 x5 : Int) (x6 : List (List Int)) (x7 x8 : Int) : Option ((List (List Int)) × Bool) := runAt Cx (k 0) 168 [tt, tt, tt, ff, tt, tt, tt, tt, tt, ff, tt, tt, tt, tt] [k 1, k 2] ⟨[(0, vl 155 (.pair i6 i6) x0), (4, vf 1000000004000), (5, vi x1), (6, vp 6003000 0), (7, vi x2), (12, vl 155 (.pair i6 i6) x3), (13, vi x4), (14, vi x5)], [(1000000004000, .row 44 (.sl 3 i6) x6 .own), (6003000, .box 155 [ci x7, ci x8])], []⟩
theorem v {a0 : List (Int × Int)} {r} (h : Ev (fun k => (qghz.f k a0).bind fun t0 =>
 if (!t0) then some ([], false) else l0 k a0 a0 (ln a0) 0 []) r) : Ev (fun k => f k a0) r := evf (fun _ _ _ => PI_at Cx (by kernel_rfl)) h
theorem v0 {x0 x1 : List (Int × Int)} {x2 x3 : Int} {x4 : List (List Int)} {r} (h : Ev (fun k => if (iLt x3 x2) then ix x3 x1 <| l1 k x0 x3 (W (x3 + 1)) x1 x2 x3 x4 (rd (0, 0) x1 x3).1 (rd (0, 0) x1 x3).2 else some (x4, true)) r) : Ev (fun k => l0 k x0 x1 x2 x3 x4) r := evl [] 0 (fun _ _ _ => by kernel_rfl) h
theorem v1 {x0 : List (Int × Int)} {x1 x2 : Int} {x3 : List (Int × Int)} {x4 x5 : Int} {x6 : List (List Int)} {x7 x8 : Int} {r} (h : Ev (fun k => if (iLt x2 (ln x0)) then ix x2 x0 <| (qgcz.f x7 (rd (0, 0) x0 x2).1).bind fun t0 =>
 (qfvz.f (W (x7 + x8)) (W ((rd (0, 0) x0 x2).1 + (rd (0, 0) x0 x2).2))).bind fun t1 =>
 if (iLe t0 t1) then gd (((lnN x6) + 1) ≤ 5864062014805) <| l1 k x0 x1 (W (x2 + 1)) x3 x4 x5 (x6 ++ [[x1, x2]]) x7 x8 else l1 k x0 x1 (W (x2 + 1)) x3 x4 x5 x6 x7 x8 else l0 k x0 x3 x4 (W (x5 + 1)) x6) r) : Ev (fun k => l1 k x0 x1 x2 x3 x4 x5 x6 x7 x8) r := evl [1] 1 (fun _ _ h => by rw [← qgcz.k (dl h), ← qfvz.k (dl h)]; kernel_rfl) h
end qbzz
namespace qgoz
def f (k : Fu) (a0 : List (List Int)) (a1 : Bool) : Option BA := PI Cx (k 0) 167 [vl 44 (.sl 3 i6) a0, vb a1]
def l0 (k : Fu) (x0 : BA) (x1 : List (List Int)) (x2 x3 : Int) : Option BA := runAt Cx (k 0) 167 [tt, tt, tt, tt, ff, tt, tt] [k 1] ⟨[(5, vs x0), (13, vl 44 (.sl 3 i6) x1), (14, vi x2), (15, vi x3)], [], []⟩
theorem v {a0 : List (List Int)} {a1 : Bool} {r} (h : Ev (fun k => if (!a1) then some (bs [110, 111]) else if ((ln a0) == 0) then some (bs [45]) else l0 k (bs []) a0 (ln a0) 0) r) : Ev (fun k => f k a0 a1) r := evf (fun _ _ _ => PI_at Cx (by kernel_rfl)) h
theorem v0 {x0 : BA} {x1 : List (List Int)} {x2 x3 : Int} {r} (h : Ev (fun k => if (iLt x3 x2) then ix x3 x1 <| if (iGt x3 0) then gd (((ByteArray.size x0) + 1) ≤ maxLen) <| (qgkz.f k (rd [] x1 x3) true).bind fun t0 =>
 gd (((ByteArray.size (x0 ++ (bs [32]))) + (ByteArray.size t0)) ≤ maxLen) <| l0 k ((x0 ++ (bs [32])) ++ t0) x1 x2 (W (x3 + 1)) else (qgkz.f k (rd [] x1 x3) true).bind fun t0 =>
 gd (((ByteArray.size x0) + (ByteArray.size t0)) ≤ maxLen) <| l0 k (x0 ++ t0) x1 x2 (W (x3 + 1)) else some x0) r) : Ev (fun k => l0 k x0 x1 x2 x3) r := evl [] 0 (fun _ _ _ => by kernel_rfl) h
end qgoz
namespace qgbz
def f (k : Fu) (a0 : List (Int × Int)) (a1 : Int) : Option (List Int) := PI Cx (k 0) 224 [vl 155 (.pair i6 i6) a0, vi a1]
def l0 (k : Fu) (x0 : Int) (x1 : List (Int × Int)) (x2 x3 : Int) (x4 : List Int) : Option (List Int) := runAt Cx (k 0) 224 [tt, tt, ff, tt, tt] [k 1] ⟨[(1, vi x0), (5, vf 1000000005000), (8, vl 155 (.pair i6 i6) x1), (9, vi x2), (10, vi x3)], [(1000000005000, .row 3 i6 x4 .own)], []⟩
theorem v {a0 : List (Int × Int)} {a1 : Int} {r} (h : Ev (fun k => l0 k a1 a0 (ln a0) 0 []) r) : Ev (fun k => f k a0 a1) r := evf (fun _ _ _ => PI_at Cx (by kernel_rfl)) h
theorem v0 {x0 : Int} {x1 : List (Int × Int)} {x2 x3 : Int} {x4 : List Int} {r} (h : Ev (fun k => if (iLt x3 x2) then ix x3 x1 <| (qhxz.f x0 (rd (0, 0) x1 x3).1 (W ((rd (0, 0) x1 x3).1 + (rd (0, 0) x1 x3).2))).bind fun t0 =>
 if t0 then gd (((lnN x4) + 1) ≤ 17592186044416) <| l0 k x0 x1 x2 (W (x3 + 1)) (x4 ++ [x3]) else l0 k x0 x1 x2 (W (x3 + 1)) x4 else some x4) r) : Ev (fun k => l0 k x0 x1 x2 x3 x4) r := evl [] 0 (fun _ _ h => by rw [← qhxz.k (dl h)]; kernel_rfl) h
end qgbz
namespace qbxz
def f (k : Fu) (a0 : List (Int × Int)) : Option ((List Int) × Bool) := PI Cx (k 0) 169 [vl 155 (.pair i6 i6) a0]
def l0 (k : Fu) (x0 : List (Int × Int)) (x1 : List Int) (x2 : List Bool) : Option ((List Int) × Bool) := runAt Cx (k 0) 169 [tt, tt, tt, tt, tt] [k 1] ⟨[(0, vl 155 (.pair i6 i6) x0), (4, vf 1000000004000), (5, vf 1000000005000)], [(1000000004000, .row 3 i6 x1 .own), (1000000005000, .row 4 .bool x2 .own)], []⟩
def l1 (k : Fu) (x0 : List (Int × Int)) (x1 : Int) (x2 : List (Int × Int)) (x3 x4 : Int) (x5 : List Int) (x6 : List Bool) : Option ((List Int) × Bool) := runAt Cx (k 0) 169 [tt, tt, tt, tt, tt, tt, tt, tt, ff, tt, tt] [k 1, k 2] ⟨[(0, vl 155 (.pair i6 i6) x0), (4, vf 1000000004000), (5, vf 1000000005000), (6, vi x1), (17, vl 155 (.pair i6 i6) x2), (18, vi x3), (19, vi x4)], [(1000000004000, .row 3 i6 x5 .own), (1000000005000, .row 4 .bool x6 .own)], []⟩
def l2 (k : Fu) (x0 : List (Int × Int)) (x1 : List Int) (x2 x3 : Int) (x4 : List Int) (x5 : List Bool) : Option ((List Int) × Bool) := runAt Cx (k 0) 169 [tt, tt, tt, tt, tt, tt, tt, tt, tt, tt, tt, tt, tt] [k 1, k 3] ⟨[(0, vl 155 (.pair i6 i6) x0), (4, vf 1000000004000), (5, vf 1000000005000), (57, vl 3 i6 x1), (58, vi x2), (59, vi x3)], [(1000000004000, .row 3 i6 x4 .own), (1000000005000, .row 4 .bool x5 .own)], []⟩
theorem v {a0 : List (Int × Int)} {r} (h : Ev (fun k => (qghz.f k a0).bind fun t0 =>
 if (!t0) then some ([], false) else gd (0 ≤ (ln a0)) <| gd ((ln a0) ≤ (ln a0)) <| gd (((ln a0) * 1) ≤ 140737488355328) <| l0 k a0 [] (List.replicate (Int.toNat (ln a0)) false)) r) : Ev (fun k => f k a0) r := evf (fun _ _ _ => PI_at Cx (by kernel_rfl)) h
theorem v0 {x0 : List (Int × Int)} {x1 : List Int} {x2 : List Bool} {r} (h : Ev (fun k => l1 k x0 (-1) x0 (ln x0) 0 x1 x2) r) : Ev (fun k => l0 k x0 x1 x2) r := evl [] 0 (fun _ _ _ => by kernel_rfl) h
theorem v1 {x0 : List (Int × Int)} {x1 : Int} {x2 : List (Int × Int)} {x3 x4 : Int} {x5 : List Int} {x6 : List Bool} {r} (h : Ev (fun k => if (iLt x4 x3) then ix x4 x2 <| ix x4 x6 <| if (!(rd false x6 x4)) then if (iLt x1 0) then l1 k x0 (W ((rd (0, 0) x2 x4).1 + (rd (0, 0) x2 x4).2)) x2 x3 (W (x4 + 1)) x5 x6 else if (iLt (W ((rd (0, 0) x2 x4).1 + (rd (0, 0) x2 x4).2)) x1) then l1 k x0 (W ((rd (0, 0) x2 x4).1 + (rd (0, 0) x2 x4).2)) x2 x3 (W (x4 + 1)) x5 x6 else l1 k x0 x1 x2 x3 (W (x4 + 1)) x5 x6 else l1 k x0 x1 x2 x3 (W (x4 + 1)) x5 x6 else if (iLt x1 0) then some (x5, true) else gd (((lnN x5) + 1) ≤ 17592186044416) <| (qgbz.f k x0 x1).bind fun t0 =>
 l2 k x0 t0 (ln t0) 0 (x5 ++ [x1]) x6) r) : Ev (fun k => l1 k x0 x1 x2 x3 x4 x5 x6) r := evl [1] 1 (fun _ _ _ => by kernel_rfl) h
theorem v2 {x0 : List (Int × Int)} {x1 : List Int} {x2 x3 : Int} {x4 : List Int} {x5 : List Bool} {r} (h : Ev (fun k => if (iLt x3 x2) then ix x3 x1 <| ix (rd 0 x1 x3) x5 <| l2 k x0 x1 x2 (W (x3 + 1)) x4 (List.set x5 (Int.toNat (rd 0 x1 x3)) true) else l0 k x0 x4 x5) r) : Ev (fun k => l2 k x0 x1 x2 x3 x4 x5) r := evl [1] 2 (fun _ _ _ => by kernel_rfl) h
end qbxz
namespace qekz
abbrev P := Int → Int → Int → Option Bool
def f : P := fun a0 a1 a2 => (qhxz.f a0 1 200).bind fun t0 =>
 if t0 then (qhxz.f a1 0 200).bind fun t1 =>
 if t1 then (qhxz.f a2 0 200).bind fun t2 =>
 some t2 else some false else some false
theorem k {K : Nat} (h : 2 ≤ K) : (fun a0 a1 a2 => PI Cx K 225 [vi a0, vi a1, vi a2] : P) = f := by
 obtain ⟨K, rfl⟩ := pos_of_le h
 funext a0 a1 a2
 unfold f
 rw [← qhxz.k (dk h)]
 exact PI_at Cx (by kernel_rfl)
end qekz
namespace qdfz
def f (k : Fu) (a0 a1 a2 : Int) : Option Int := PI Cx (k 0) 226 [vi a0, vi a1, vi a2]
def l0 (k : Fu) (x0 x1 x2 x3 x4 : Int) : Option Int := runAt Cx (k 0) 226 [tt, tt, ff, tt, tt] [k 1] ⟨[(0, vi x0), (1, vi x1), (2, vi x2), (7, vi x3), (8, vi x4)], [], []⟩
def l1 (k : Fu) (x0 x1 x2 x3 x4 x5 : Int) : Option Int := runAt Cx (k 0) 226 [tt, tt, ff, tt, tt, tt, tt, ff, tt, tt, tt] [k 1, k 2] ⟨[(0, vi x0), (1, vi x1), (2, vi x2), (7, vi x3), (8, vi x4), (9, vi x5)], [], []⟩
theorem v {a0 a1 a2 : Int} {r} (h : Ev (fun k => l0 k a0 a1 a2 0 0) r) : Ev (fun k => f k a0 a1 a2) r := evf (fun _ _ _ => PI_at Cx (by kernel_rfl)) h
theorem v0 {x0 x1 x2 x3 x4 : Int} {r} (h : Ev (fun k => if (iLt x4 x0) then l1 k x0 x1 x2 x3 x4 0 else some x3) r) : Ev (fun k => l0 k x0 x1 x2 x3 x4) r := evl [] 0 (fun _ _ _ => by kernel_rfl) h
theorem v1 {x0 x1 x2 x3 x4 x5 : Int} {r} (h : Ev (fun k => if (iLt x5 x0) then if (iLe (W (x5 - x4)) x1) then if (iLe (W (x4 - x5)) x2) then l1 k x0 x1 x2 (W (x3 + 1)) x4 (W (x5 + 1)) else l1 k x0 x1 x2 x3 x4 (W (x5 + 1)) else l1 k x0 x1 x2 x3 x4 (W (x5 + 1)) else l0 k x0 x1 x2 x3 (W (x4 + 1))) r) : Ev (fun k => l1 k x0 x1 x2 x3 x4 x5) r := evl [1] 1 (fun _ _ _ => by kernel_rfl) h
end qdfz
namespace qbmz
def f (k : Fu) (a0 a1 a2 : Int) : Option (Int × (Int × Bool)) := PI Cx (k 0) 170 [vi a0, vi a1, vi a2]
theorem v {a0 a1 a2 : Int} {r} (h : Ev (fun k => (qekz.f a0 a1 a2).bind fun t0 =>
 if (!t0) then some (0, (0, false)) else (qdfz.f k a0 a1 a2).bind fun t1 =>
 (qhqz.f k t1 (W (a0 * a0))).bind fun t2 =>
 some (t2.1, (t2.2, true))) r) : Ev (fun k => f k a0 a1 a2) r := evf (fun _ _ h => by rw [← qekz.k (dl h)]; exact PI_at Cx (by kernel_rfl)) h
end qbmz
namespace qchz
def f (k : Fu) (a0 : List (Int × Int)) (a1 : Int) (a2 : List (Int × Int)) (a3 a4 a5 a6 : Int) (a7 a8 : List (Int × Int)) (a9 : List Int) (a10 : BA) : Option (BA × ((List (Int × Int)) × (Int × ((List (Int × Int)) × (Int × (Int × (Int × (Int × ((List (Int × Int)) × ((List (Int × Int)) × (List Int))))))))))) := PI Cx (k 0) 100 [va [.sl 74 (.pair i6 i6) a0, ci a1, .sl 74 (.pair i6 i6) a2, ci a3, ci a4, ci a5, ci a6, .sl 88 (.pair i6 i6) a7, .sl 155 (.pair i6 i6) a8, .sl 3 i6 a9], vs a10]
theorem v {a0 : List (Int × Int)} {a1 : Int} {a2 : List (Int × Int)} {a3 a4 a5 a6 : Int} {a7 a8 : List (Int × Int)} {a9 : List Int} {a10 : BA} {r} (h : Ev (fun k => if (seq a10 (bs [115, 104, 111, 119])) then (qggz.f k a0).bind fun t0 =>
 some (t0, (a0, (a1, (a2, (a3, (a4, (a5, (a6, (a7, (a8, a9)))))))))) else if (seq a10 (bs [109, 101, 101, 116])) then (qdcz.f k a0 a1 a2 a3 a4 a5 a6 a7 a8 a9 a10).bind fun t0 =>
 some t0 else if (seq a10 (bs [119, 104, 101, 114, 101])) then (qdcz.f k a0 a1 a2 a3 a4 a5 a6 a7 a8 a9 a10).bind fun t0 =>
 some t0 else if (seq a10 (bs [97, 114, 111, 117, 110, 100])) then (qdcz.f k a0 a1 a2 a3 a4 a5 a6 a7 a8 a9 a10).bind fun t0 =>
 some t0 else if (seq a10 (bs [103, 97, 112])) then (qdcz.f k a0 a1 a2 a3 a4 a5 a6 a7 a8 a9 a10).bind fun t0 =>
 some t0 else if (seq a10 (bs [112, 108, 97, 99, 101, 115])) then (qdcz.f k a0 a1 a2 a3 a4 a5 a6 a7 a8 a9 a10).bind fun t0 =>
 some t0 else if (seq a10 (bs [112, 97, 105, 114, 115])) then (qbtz.f k a0).bind fun t0 =>
 (qesz.f k t0.1 t0.2).bind fun t1 =>
 some (t1, (a0, (a1, (a2, (a3, (a4, (a5, (a6, (a7, (a8, a9)))))))))) else if (seq a10 (bs [102, 105, 114, 115, 116])) then (qcwz.f k a0).bind fun t0 =>
 if ((ln t0.1) == 0) then some ((bs [110, 111]), (a0, (a1, (a2, (a3, (a4, (a5, (a6, (a7, (a8, a9)))))))))) else gd (0 < (ln t0.1)) <| gd (2 ≤ (ln (rd [] t0.1 0))) <| (qgkz.f k (List.take 2 (rd [] t0.1 0)) true).bind fun t1 =>
 some (t1, (a0, (a1, (a2, (a3, (a4, (a5, (a6, (a7, (a8, a9)))))))))) else if (seq a10 (bs [108, 101, 97, 100])) then (qdwz.f k a0).bind fun t0 =>
 (qgkz.f k t0.1 t0.2).bind fun t1 =>
 some (t1, (a0, (a1, (a2, (a3, (a4, (a5, (a6, (a7, (a8, a9)))))))))) else if (seq a10 (bs [108, 97, 115, 116])) then (qeaz.f k a0).bind fun t0 =>
 (qgkz.f k t0.1 t0.2).bind fun t1 =>
 some (t1, (a0, (a1, (a2, (a3, (a4, (a5, (a6, (a7, (a8, a9)))))))))) else if (seq a10 (bs [97, 116])) then gd (0 < (ln a9)) <| (qehz.f k a0 (rd 0 a9 0) 1).bind fun t0 =>
 (qgkz.f k t0.1 t0.2).bind fun t1 =>
 some (t1, (a0, (a1, (a2, (a3, (a4, (a5, (a6, (a7, (a8, a9)))))))))) else if (seq a10 (bs [115, 116, 97, 114, 116])) then (qdhz.f k a1 a0).bind fun t0 =>
 (qgnz.f k t0.1 t0.2.1 t0.2.2).bind fun t1 =>
 some (t1, (a0, (a1, (a2, (a3, (a4, (a5, (a6, (a7, (a8, a9)))))))))) else if (seq a10 (bs [100, 111, 103])) then (qdqz.f k a3 a4 a5 a6).bind fun t0 =>
 (qgnz.f k t0.1 t0.2.1 t0.2.2).bind fun t1 =>
 some (t1, (a0, (a1, (a2, (a3, (a4, (a5, (a6, (a7, (a8, a9)))))))))) else if (seq a10 (bs [114, 117, 110])) then (qdaz.f k a3 a4 a5 a6).bind fun t0 =>
 (qgnz.f k t0.1 t0.2.1 t0.2.2).bind fun t1 =>
 some (t1, (a0, (a1, (a2, (a3, (a4, (a5, (a6, (a7, (a8, a9)))))))))) else if (seq a10 (bs [97, 112, 97, 114, 116])) then gd (0 < (ln a9)) <| (qbrz.f k a3 a4 a5 a6 (rd 0 a9 0)).bind fun t0 =>
 (qgnz.f k t0.1 t0.2.1 t0.2.2).bind fun t1 =>
 some (t1, (a0, (a1, (a2, (a3, (a4, (a5, (a6, (a7, (a8, a9)))))))))) else if (seq a10 (bs [109, 101, 97, 110])) then (qefz.f k a7).bind fun t0 =>
 (qgnz.f k t0.1 t0.2.1 t0.2.2).bind fun t1 =>
 some (t1, (a0, (a1, (a2, (a3, (a4, (a5, (a6, (a7, (a8, a9)))))))))) else if (seq a10 (bs [116, 105, 109, 101])) then (qdnz.f k a7).bind fun t0 =>
 (qgnz.f k t0.1 t0.2.1 t0.2.2).bind fun t1 =>
 some (t1, (a0, (a1, (a2, (a3, (a4, (a5, (a6, (a7, (a8, a9)))))))))) else if (seq a10 (bs [110, 101, 101, 100])) then gd (0 < (ln a9)) <| gd (1 < (ln a9)) <| (qciz.f k a7 (rd 0 a9 0) (rd 0 a9 1)).bind fun t0 =>
 (qgnz.f k t0.1 t0.2.1 t0.2.2).bind fun t1 =>
 some (t1, (a0, (a1, (a2, (a3, (a4, (a5, (a6, (a7, (a8, a9)))))))))) else if (seq a10 (bs [118, 105, 115, 105, 116, 115])) then (qbzz.f k a8).bind fun t0 =>
 (qgoz.f k t0.1 t0.2).bind fun t1 =>
 some (t1, (a0, (a1, (a2, (a3, (a4, (a5, (a6, (a7, (a8, a9)))))))))) else if (seq a10 (bs [103, 117, 105, 100, 101, 115])) then (qbxz.f k a8).bind fun t0 =>
 (qgkz.f k t0.1 t0.2).bind fun t1 =>
 some (t1, (a0, (a1, (a2, (a3, (a4, (a5, (a6, (a7, (a8, a9)))))))))) else gd (0 < (ln a9)) <| gd (1 < (ln a9)) <| gd (2 < (ln a9)) <| (qbmz.f k (rd 0 a9 0) (rd 0 a9 1) (rd 0 a9 2)).bind fun t0 =>
 (qgnz.f k t0.1 t0.2.1 t0.2.2).bind fun t1 =>
 some (t1, (a0, (a1, (a2, (a3, (a4, (a5, (a6, (a7, (a8, a9))))))))))) r) : Ev (fun k => f k a0 a1 a2 a3 a4 a5 a6 a7 a8 a9 a10) r := evf (fun _ _ _ => PI_at Cx (by kernel_rfl)) h
end qchz
namespace qhcz
def f (k : Fu) (a0 : List (Int × Int)) (a1 : Int) (a2 : BA) : Option (((List (Int × Int)) × Int) × BA) := PI Cx (k 0) 52 [va [.sl 74 (.pair i6 i6) a0, ci a1], vs a2]
theorem v {a0 : List (Int × Int)} {a1 : Int} {a2 : BA} {r} (h : Ev (fun k => (qhdz.f k a0 a1 a2).bind fun t0 =>
 if (!t0.2.2) then some ((a0, a1), (bs [119, 104, 97, 116])) else if (seq t0.1 (bs [119, 97, 108, 107, 101, 114, 115])) then (qcaz.f k t0.2.1.1 t0.2.1.2.1 t0.2.1.2.2.1 t0.2.1.2.2.2.1 t0.2.1.2.2.2.2.1 t0.2.1.2.2.2.2.2.1 t0.2.1.2.2.2.2.2.2.1 t0.2.1.2.2.2.2.2.2.2.1 t0.2.1.2.2.2.2.2.2.2.2.1 t0.2.1.2.2.2.2.2.2.2.2.2 t0.1).bind fun t1 =>
 some ((t1.2.1, t1.2.2.1), t1.1) else if (seq t0.1 (bs [114, 105, 110, 103])) then (qcaz.f k t0.2.1.1 t0.2.1.2.1 t0.2.1.2.2.1 t0.2.1.2.2.2.1 t0.2.1.2.2.2.2.1 t0.2.1.2.2.2.2.2.1 t0.2.1.2.2.2.2.2.2.1 t0.2.1.2.2.2.2.2.2.2.1 t0.2.1.2.2.2.2.2.2.2.2.1 t0.2.1.2.2.2.2.2.2.2.2.2 t0.1).bind fun t1 =>
 some ((t1.2.1, t1.2.2.1), t1.1) else if (seq t0.1 (bs [116, 117, 114, 110])) then (qcaz.f k t0.2.1.1 t0.2.1.2.1 t0.2.1.2.2.1 t0.2.1.2.2.2.1 t0.2.1.2.2.2.2.1 t0.2.1.2.2.2.2.2.1 t0.2.1.2.2.2.2.2.2.1 t0.2.1.2.2.2.2.2.2.2.1 t0.2.1.2.2.2.2.2.2.2.2.1 t0.2.1.2.2.2.2.2.2.2.2.2 t0.1).bind fun t1 =>
 some ((t1.2.1, t1.2.2.1), t1.1) else if (seq t0.1 (bs [97, 100, 100])) then (qcaz.f k t0.2.1.1 t0.2.1.2.1 t0.2.1.2.2.1 t0.2.1.2.2.2.1 t0.2.1.2.2.2.2.1 t0.2.1.2.2.2.2.2.1 t0.2.1.2.2.2.2.2.2.1 t0.2.1.2.2.2.2.2.2.2.1 t0.2.1.2.2.2.2.2.2.2.2.1 t0.2.1.2.2.2.2.2.2.2.2.2 t0.1).bind fun t1 =>
 some ((t1.2.1, t1.2.2.1), t1.1) else if (seq t0.1 (bs [100, 114, 111, 112])) then (qcaz.f k t0.2.1.1 t0.2.1.2.1 t0.2.1.2.2.1 t0.2.1.2.2.2.1 t0.2.1.2.2.2.2.1 t0.2.1.2.2.2.2.2.1 t0.2.1.2.2.2.2.2.2.1 t0.2.1.2.2.2.2.2.2.2.1 t0.2.1.2.2.2.2.2.2.2.2.1 t0.2.1.2.2.2.2.2.2.2.2.2 t0.1).bind fun t1 =>
 some ((t1.2.1, t1.2.2.1), t1.1) else (qchz.f k t0.2.1.1 t0.2.1.2.1 t0.2.1.2.2.1 t0.2.1.2.2.2.1 t0.2.1.2.2.2.2.1 t0.2.1.2.2.2.2.2.1 t0.2.1.2.2.2.2.2.2.1 t0.2.1.2.2.2.2.2.2.2.1 t0.2.1.2.2.2.2.2.2.2.2.1 t0.2.1.2.2.2.2.2.2.2.2.2 t0.1).bind fun t1 =>
 some ((a0, a1), t1.1)) r) : Ev (fun k => f k a0 a1 a2) r := evf (fun _ _ _ => PI_at Cx (by kernel_rfl)) h
end qhcz
namespace qhnz
abbrev P := List (Int × Int) → Int → Option ((List (Int × Int)) × Int)
def f : P := fun a0 a1 => gd ((0 + (lnN a0)) ≤ 8796093022208) <| some (([] ++ a0), a1)
theorem k {K : Nat} (h : 1 ≤ K) : (fun a0 a1 => PI Cx K 39 [va [.sl 74 (.pair i6 i6) a0, ci a1]] : P) = f := by
 obtain ⟨K, rfl⟩ := pos_of_le h
 funext a0 a1
 exact PI_at Cx (by kernel_rfl)
end qhnz
namespace qfdz
def f (k : Fu) (a0 : List (Int × Int)) (a1 : Int) (a2 : BA) : Option (((List (Int × Int)) × Int) × (BA × Bool)) := PI Cx (k 0) 18 [va [.sl 74 (.pair i6 i6) a0, ci a1], vs a2]
theorem v {a0 : List (Int × Int)} {a1 : Int} {a2 : BA} {r} (h : Ev (fun k => (qhbz.f k a0 a1).bind fun t0 =>
 if (!t0) then some (([], 0), ((bs []), false)) else if (iGt (sln a2) 3000) then some (([], 0), ((bs []), false)) else (qftz.f k a2 10).bind fun t1 =>
 if (iGt (ln t1) 1) then some (([], 0), ((bs []), false)) else (qhcz.f k a0 a1 a2).bind fun t2 =>
 (qhnz.f t2.1.1 t2.1.2).bind fun t3 =>
 some (t3, (t2.2, true))) r) : Ev (fun k => f k a0 a1 a2) r := evf (fun _ _ h => by rw [← qhnz.k (dl h)]; exact PI_at Cx (by kernel_rfl)) h
end qfdz
namespace qgwz
abbrev P := Int → Int → Int → Option Bool
def f : P := fun a0 a1 a2 => if (iGe a0 a1) then some (iLe a0 a2) else some false
theorem k {K : Nat} (h : 1 ≤ K) : (fun a0 a1 a2 => PI Cx K 101 [vi a0, vi a1, vi a2] : P) = f := by
 obtain ⟨K, rfl⟩ := pos_of_le h
 funext a0 a1 a2
 exact PI_at Cx (by kernel_rfl)
end qgwz
namespace qexz
abbrev P := Int → Int → Option Bool
def f : P := fun a0 a1 => (qgwz.f a0 (-1000) 1000).bind fun t0 =>
 if t0 then (qgwz.f a1 (-100) 100).bind fun t1 =>
 some t1 else some false
theorem k {K : Nat} (h : 2 ≤ K) : (fun a0 a1 => PI Cx K 104 [va [ci a0, ci a1]] : P) = f := by
 obtain ⟨K, rfl⟩ := pos_of_le h
 funext a0 a1
 unfold f
 rw [← qgwz.k (dk h)]
 exact PI_at Cx (by kernel_rfl)
end qexz
namespace qcfz
abbrev P := Int → Int → Option Bool
def f : P := fun a0 a1 => (qexz.f a0 a1).bind fun t0 =>
 some (!t0)
theorem k {K : Nat} (h : 3 ≤ K) : (fun a0 a1 => PI Cx K 103 [va [ci a0, ci a1]] : P) = f := by
 obtain ⟨K, rfl⟩ := pos_of_le h
 funext a0 a1
 unfold f
 rw [← qexz.k (dk h)]
 exact PI_at Cx (by kernel_rfl)
end qcfz
namespace qagz
def f (k : Fu) (a0 : List (Int × Int)) : Option Int := PI Cx (k 0) 171 [vl 74 (.pair i6 i6) a0, .sv (.one (.fn 103 []))]
def l0 (k : Fu) (x0 : List (Int × Int)) (x1 x2 : Int) : Option Int := runAt Cx (k 0) 171 [tt, ff, tt, tt] [k 1] ⟨[(0, vl 74 (.pair i6 i6) x0), (1, .sv (.one (.fn 103 []))), (7, vi x1), (8, vi x2)], [], []⟩
theorem v {a0 : List (Int × Int)} {r} (h : Ev (fun k => l0 k a0 (ln a0) 0) r) : Ev (fun k => f k a0) r := evf (fun _ _ _ => PI_at Cx (by kernel_rfl)) h
theorem v0 {x0 : List (Int × Int)} {x1 x2 : Int} {r} (h : Ev (fun k => if (iLt x2 x1) then ix x2 x0 <| (qcfz.f (rd (0, 0) x0 x2).1 (rd (0, 0) x0 x2).2).bind fun t0 =>
 if t0 then some x2 else l0 k x0 x1 (W (x2 + 1)) else some (-1)) r) : Ev (fun k => l0 k x0 x1 x2) r := evl [] 0 (fun _ _ h => by rw [← qcfz.k (dl h)]; kernel_rfl) h
end qagz
namespace qabz
def f (k : Fu) (a0 : List (Int × Int)) : Option Bool := PI Cx (k 0) 102 [vl 74 (.pair i6 i6) a0, .sv (.one (.fn 103 []))]
theorem v {a0 : List (Int × Int)} {r} (h : Ev (fun k => (qagz.f k a0).bind fun t0 =>
 some (iGe t0 0)) r) : Ev (fun k => f k a0) r := evf (fun _ _ _ => PI_at Cx (by kernel_rfl)) h
end qabz
namespace qdtz
def f (k : Fu) (a0 : List (Int × Int)) : Option Bool := PI Cx (k 0) 54 [vl 74 (.pair i6 i6) a0]
theorem v {a0 : List (Int × Int)} {r} (h : Ev (fun k => (qgwz.f (ln a0) 1 8).bind fun t0 =>
 if t0 then (qabz.f k a0).bind fun t1 =>
 some (!t1) else some false) r) : Ev (fun k => f k a0) r := evf (fun _ _ h => by rw [← qgwz.k (dl h)]; exact PI_at Cx (by kernel_rfl)) h
end qdtz
namespace qhaz
abbrev P := Int → Option Bool
def f : P := fun a0 => (qgwz.f a0 1 1000).bind fun t0 =>
 some t0
theorem k {K : Nat} (h : 2 ≤ K) : (fun a0 => PI Cx K 55 [vi a0] : P) = f := by
 obtain ⟨K, rfl⟩ := pos_of_le h
 funext a0
 unfold f
 rw [← qgwz.k (dk h)]
 exact PI_at Cx (by kernel_rfl)
end qhaz
namespace qgtz
def f (k : Fu) (a0 : List (Int × Int)) (a1 : Int) : Option Bool := PI Cx (k 0) 20 [va [.sl 74 (.pair i6 i6) a0, ci a1]]
theorem v {a0 : List (Int × Int)} {a1 : Int} {r} (h : Ev (fun k => (qdtz.f k a0).bind fun t0 =>
 if t0 then (qhaz.f a1).bind fun t1 =>
 some t1 else some false) r) : Ev (fun k => f k a0 a1) r := evf (fun _ _ h => by rw [← qhaz.k (dl h)]; exact PI_at Cx (by kernel_rfl)) h
end qgtz
namespace qcnz
abbrev P := BA → BA → Option Bool
def f : P := fun a0 a1 => handContains a0 a1
theorem k {K : Nat} (h : 1 ≤ K) : (fun a0 a1 => PI Cx K 47 [vs a0, vs a1] : P) = f := by
 obtain ⟨K, rfl⟩ := pos_of_le h
 funext a0 a1
 exact PI_at Cx (by kernel_rfl)
end qcnz
namespace qfbz
abbrev P := BA → BA → Option (List BA)
def f : P := fun a0 a1 => handSplit a0 a1
theorem k {K : Nat} (h : 1 ≤ K) : (fun a0 a1 => PI Cx K 92 [vs a0, vs a1] : P) = f := by
 obtain ⟨K, rfl⟩ := pos_of_le h
 funext a0 a1
 exact PI_at Cx (by kernel_rfl)
end qfbz
namespace qfaz
abbrev P := BA → Option (BA × Bool)
def f : P := fun a0 => if (seq a0 (bs [119, 97, 108, 107, 101, 114, 115])) then some ((bs [87]), true) else if (seq a0 (bs [97, 100, 100])) then some ((bs [87]), true) else if (seq a0 (bs [114, 105, 110, 103])) then some ((bs [78]), true) else if (seq a0 (bs [116, 117, 114, 110])) then some ((bs [78]), true) else if (seq a0 (bs [100, 114, 111, 112])) then some ((bs [78]), true) else if (seq a0 (bs [97, 116])) then some ((bs [78]), true) else if (seq a0 (bs [115, 104, 111, 119])) then some ((bs []), true) else if (seq a0 (bs [112, 97, 105, 114, 115])) then some ((bs []), true) else if (seq a0 (bs [102, 105, 114, 115, 116])) then some ((bs []), true) else if (seq a0 (bs [108, 101, 97, 100])) then some ((bs []), true) else if (seq a0 (bs [108, 97, 115, 116])) then some ((bs []), true) else if (seq a0 (bs [115, 116, 97, 114, 116])) then some ((bs []), true) else if (seq a0 (bs [109, 101, 101, 116])) then some ((bs [78, 78]), true) else if (seq a0 (bs [119, 104, 101, 114, 101])) then some ((bs [78, 78]), true) else if (seq a0 (bs [97, 114, 111, 117, 110, 100])) then some ((bs [78, 78]), true) else if (seq a0 (bs [103, 97, 112])) then some ((bs [78, 78]), true) else if (seq a0 (bs [112, 108, 97, 99, 101, 115])) then some ((bs [78, 78]), true) else if (seq a0 (bs [100, 111, 103])) then some ((bs [67]), true) else if (seq a0 (bs [114, 117, 110])) then some ((bs [67]), true) else if (seq a0 (bs [97, 112, 97, 114, 116])) then some ((bs [67, 78]), true) else if (seq a0 (bs [109, 101, 97, 110])) then some ((bs [76]), true) else if (seq a0 (bs [116, 105, 109, 101])) then some ((bs [76]), true) else if (seq a0 (bs [110, 101, 101, 100])) then some ((bs [76, 78, 78]), true) else if (seq a0 (bs [118, 105, 115, 105, 116, 115])) then some ((bs [86]), true) else if (seq a0 (bs [103, 117, 105, 100, 101, 115])) then some ((bs [86]), true) else if (seq a0 (bs [99, 104, 97, 110, 99, 101])) then some ((bs [78, 78, 78]), true) else some ((bs []), false)
theorem k {K : Nat} (h : 1 ≤ K) : (fun a0 => PI Cx K 93 [vs a0] : P) = f := by
 obtain ⟨K, rfl⟩ := pos_of_le h
 funext a0
 exact PI_at Cx (by kernel_rfl)
end qfaz
namespace qdgz
abbrev P := BA → Option (Int × Bool)
def f : P := fun a0 => handNumber a0
theorem k {K : Nat} (h : 1 ≤ K) : (fun a0 => PI Cx K 138 [vs a0] : P) = f := by
 obtain ⟨K, rfl⟩ := pos_of_le h
 funext a0
 exact PI_at Cx (by kernel_rfl)
end qdgz
namespace qcyz
def f (k : Fu) (a0 a1 : BA) : Option ((List Int) × Bool) := PI Cx (k 0) 190 [vs a0, vs a1]
def l0 (k : Fu) (x0 : List BA) (x1 x2 : Int) (x3 : List Int) : Option ((List Int) × Bool) := runAt Cx (k 0) 190 [tt, tt, ff, tt, tt] [k 1] ⟨[(6, vf 1000000006000), (13, vl 9 .str x0), (14, vi x1), (15, vi x2)], [(1000000006000, .row 3 i6 x3 .own)], []⟩
theorem v {a0 a1 : BA} {r} (h : Ev (fun k => (qfbz.f a0 a1).bind fun t0 =>
 l0 k t0 (ln t0) 0 []) r) : Ev (fun k => f k a0 a1) r := evf (fun _ _ h => by rw [← qfbz.k (dl h)]; exact PI_at Cx (by kernel_rfl)) h
theorem v0 {x0 : List BA} {x1 x2 : Int} {x3 : List Int} {r} (h : Ev (fun k => if (iLt x2 x1) then ix x2 x0 <| (qdgz.f (rd (bs []) x0 x2)).bind fun t0 =>
 if (!t0.2) then some ([], false) else gd (((lnN x3) + 1) ≤ 17592186044416) <| l0 k x0 x1 (W (x2 + 1)) (x3 ++ [t0.1]) else some (x3, true)) r) : Ev (fun k => l0 k x0 x1 x2 x3) r := evl [] 0 (fun _ _ h => by rw [← qdgz.k (dl h)]; kernel_rfl) h
end qcyz
namespace qcdz
def f (k : Fu) (a0 : BA) : Option ((List (Int × Int)) × Bool) := PI Cx (k 0) 134 [vs a0]
def l0 (k : Fu) (x0 : List BA) (x1 x2 : Int) (x3 : List (Int × Int)) : Option ((List (Int × Int)) × Bool) := runAt Cx (k 0) 134 [tt, tt, ff, tt, tt] [k 1] ⟨[(4, vf 1000000004000), (10, vl 9 .str x0), (11, vi x1), (12, vi x2)], [(1000000004000, .row 74 (.pair i6 i6) x3 .own)], []⟩
theorem v {a0 : BA} {r} (h : Ev (fun k => (qfbz.f a0 (bs [44])).bind fun t0 =>
 l0 k t0 (ln t0) 0 []) r) : Ev (fun k => f k a0) r := evf (fun _ _ h => by rw [← qfbz.k (dl h)]; exact PI_at Cx (by kernel_rfl)) h
theorem v0 {x0 : List BA} {x1 x2 : Int} {x3 : List (Int × Int)} {r} (h : Ev (fun k => if (iLt x2 x1) then ix x2 x0 <| (qcyz.f k (rd (bs []) x0 x2) (bs [58])).bind fun t0 =>
 if (!t0.2) then some ([], false) else if ((ln t0.1) != 2) then some ([], false) else gd (0 < (ln t0.1)) <| gd (1 < (ln t0.1)) <| gd (((lnN x3) + 1) ≤ 8796093022208) <| l0 k x0 x1 (W (x2 + 1)) (x3 ++ [((rd 0 t0.1 0), (rd 0 t0.1 1))]) else (qdtz.f k x3).bind fun t0 =>
 if (!t0) then some ([], false) else some (x3, true)) r) : Ev (fun k => l0 k x0 x1 x2 x3) r := evl [] 0 (fun _ _ _ => by kernel_rfl) h
end qcdz
namespace qflz
abbrev P := Int → Int → Int → Int → Option Bool
def f : P := fun a0 a1 a2 a3 => (qgwz.f a0 1 1000).bind fun t0 =>
 if t0 then (qgwz.f a1 0 20).bind fun t1 =>
 if t1 then (qgwz.f a2 0 20).bind fun t2 =>
 if t2 then if (iGt (W (a1 + a2)) 0) then if (iGt a3 (mx a1 a2)) then some (iLe a3 20) else some false else some false else some false else some false else some false
theorem k {K : Nat} (h : 2 ≤ K) : (fun a0 a1 a2 a3 => PI Cx K 191 [va [ci a0, ci a1, ci a2, ci a3]] : P) = f := by
 obtain ⟨K, rfl⟩ := pos_of_le h
 funext a0 a1 a2 a3
 unfold f
 rw [← qgwz.k (dk h)]
 exact PI_at Cx (by kernel_rfl)
end qflz
namespace qdrz
def f (k : Fu) (a0 : BA) : Option ((Int × (Int × (Int × Int))) × Bool) := PI Cx (k 0) 135 [vs a0]
theorem v {a0 : BA} {r} (h : Ev (fun k => (qcyz.f k a0 (bs [45])).bind fun t0 =>
 if (!t0.2) then some ((0, (0, (0, 0))), false) else if ((ln t0.1) != 4) then some ((0, (0, (0, 0))), false) else gd (0 < (ln t0.1)) <| gd (1 < (ln t0.1)) <| gd (2 < (ln t0.1)) <| gd (3 < (ln t0.1)) <| (qflz.f (rd 0 t0.1 0) (rd 0 t0.1 1) (rd 0 t0.1 2) (rd 0 t0.1 3)).bind fun t1 =>
 if (!t1) then some ((0, (0, (0, 0))), false) else gd (0 < (ln t0.1)) <| gd (1 < (ln t0.1)) <| gd (2 < (ln t0.1)) <| gd (3 < (ln t0.1)) <| some (((rd 0 t0.1 0), ((rd 0 t0.1 1), ((rd 0 t0.1 2), (rd 0 t0.1 3)))), true)) r) : Ev (fun k => f k a0) r := evf (fun _ _ h => by rw [← qflz.k (dl h)]; exact PI_at Cx (by kernel_rfl)) h
end qdrz
namespace qhjz
abbrev P := Int → Option Bool
def f : P := fun a0 => (qgwz.f a0 1 1000).bind fun t0 =>
 some t0
theorem k {K : Nat} (h : 2 ≤ K) : (fun a0 => PI Cx K 182 [vi a0] : P) = f := by
 obtain ⟨K, rfl⟩ := pos_of_le h
 funext a0
 unfold f
 rw [← qgwz.k (dk h)]
 exact PI_at Cx (by kernel_rfl)
end qhjz
namespace qgjz
abbrev P := Int → Option Bool
def f : P := fun a0 => (qgwz.f a0 1 100).bind fun t0 =>
 some t0
theorem k {K : Nat} (h : 2 ≤ K) : (fun a0 => PI Cx K 183 [vi a0] : P) = f := by
 obtain ⟨K, rfl⟩ := pos_of_le h
 funext a0
 unfold f
 rw [← qgwz.k (dk h)]
 exact PI_at Cx (by kernel_rfl)
end qgjz
namespace qebz
abbrev P := Int → Int → Option Bool
def f : P := fun a0 a1 => (qhjz.f a0).bind fun t0 =>
 if (!t0) then some true else (qgjz.f a1).bind fun t1 =>
 some (!t1)
theorem k {K : Nat} (h : 3 ≤ K) : (fun a0 a1 => PI Cx K 181 [va [ci a0, ci a1]] : P) = f := by
 obtain ⟨K, rfl⟩ := pos_of_le h
 funext a0 a1
 unfold f
 rw [← qhjz.k (dk h), ← qgjz.k (dk h)]
 exact PI_at Cx (by kernel_rfl)
end qebz
namespace qavz
def f (k : Fu) (a0 : List (Int × Int)) : Option Int := PI Cx (k 0) 232 [vl 88 (.pair i6 i6) a0, .sv (.one (.fn 181 []))]
def l0 (k : Fu) (x0 : List (Int × Int)) (x1 x2 : Int) : Option Int := runAt Cx (k 0) 232 [tt, ff, tt, tt] [k 1] ⟨[(0, vl 88 (.pair i6 i6) x0), (1, .sv (.one (.fn 181 []))), (7, vi x1), (8, vi x2)], [], []⟩
theorem v {a0 : List (Int × Int)} {r} (h : Ev (fun k => l0 k a0 (ln a0) 0) r) : Ev (fun k => f k a0) r := evf (fun _ _ _ => PI_at Cx (by kernel_rfl)) h
theorem v0 {x0 : List (Int × Int)} {x1 x2 : Int} {r} (h : Ev (fun k => if (iLt x2 x1) then ix x2 x0 <| (qebz.f (rd (0, 0) x0 x2).1 (rd (0, 0) x0 x2).2).bind fun t0 =>
 if t0 then some x2 else l0 k x0 x1 (W (x2 + 1)) else some (-1)) r) : Ev (fun k => l0 k x0 x1 x2) r := evl [] 0 (fun _ _ h => by rw [← qebz.k (dl h)]; kernel_rfl) h
end qavz
namespace qarz
def f (k : Fu) (a0 : List (Int × Int)) : Option Bool := PI Cx (k 0) 180 [vl 88 (.pair i6 i6) a0, .sv (.one (.fn 181 []))]
theorem v {a0 : List (Int × Int)} {r} (h : Ev (fun k => (qavz.f k a0).bind fun t0 =>
 some (iGe t0 0)) r) : Ev (fun k => f k a0) r := evf (fun _ _ _ => PI_at Cx (by kernel_rfl)) h
end qarz
namespace qfsz
def f (k : Fu) (a0 : List (Int × Int)) : Option Bool := PI Cx (k 0) 113 [vl 88 (.pair i6 i6) a0]
theorem v {a0 : List (Int × Int)} {r} (h : Ev (fun k => (qgwz.f (ln a0) 1 5).bind fun t0 =>
 if t0 then (qarz.f k a0).bind fun t1 =>
 some (!t1) else some false) r) : Ev (fun k => f k a0) r := evf (fun _ _ h => by rw [← qgwz.k (dl h)]; exact PI_at Cx (by kernel_rfl)) h
end qfsz
namespace qdxz
def f (k : Fu) (a0 : BA) : Option ((List (Int × Int)) × Bool) := PI Cx (k 0) 136 [vs a0]
def l0 (k : Fu) (x0 : List BA) (x1 x2 : Int) (x3 : List (Int × Int)) : Option ((List (Int × Int)) × Bool) := runAt Cx (k 0) 136 [tt, tt, ff, tt, tt] [k 1] ⟨[(4, vf 1000000004000), (10, vl 9 .str x0), (11, vi x1), (12, vi x2)], [(1000000004000, .row 88 (.pair i6 i6) x3 .own)], []⟩
theorem v {a0 : BA} {r} (h : Ev (fun k => (qfbz.f a0 (bs [43])).bind fun t0 =>
 l0 k t0 (ln t0) 0 []) r) : Ev (fun k => f k a0) r := evf (fun _ _ h => by rw [← qfbz.k (dl h)]; exact PI_at Cx (by kernel_rfl)) h
theorem v0 {x0 : List BA} {x1 x2 : Int} {x3 : List (Int × Int)} {r} (h : Ev (fun k => if (iLt x2 x1) then ix x2 x0 <| (qcyz.f k (rd (bs []) x0 x2) (bs [47])).bind fun t0 =>
 if (!t0.2) then some ([], false) else if ((ln t0.1) != 2) then some ([], false) else gd (0 < (ln t0.1)) <| gd (1 < (ln t0.1)) <| gd (((lnN x3) + 1) ≤ 8796093022208) <| l0 k x0 x1 (W (x2 + 1)) (x3 ++ [((rd 0 t0.1 0), (rd 0 t0.1 1))]) else (qfsz.f k x3).bind fun t0 =>
 if (!t0) then some ([], false) else some (x3, true)) r) : Ev (fun k => l0 k x0 x1 x2 x3) r := evl [] 0 (fun _ _ _ => by kernel_rfl) h
end qdxz
namespace qcoz
abbrev P := Int → Int → Option Bool
def f : P := fun a0 a1 => (qgwz.f a0 0 200).bind fun t0 =>
 if (!t0) then some true else (qgwz.f a1 0 200).bind fun t1 =>
 some (!t1)
theorem k {K : Nat} (h : 2 ≤ K) : (fun a0 a1 => PI Cx K 237 [va [ci a0, ci a1]] : P) = f := by
 obtain ⟨K, rfl⟩ := pos_of_le h
 funext a0 a1
 unfold f
 rw [← qgwz.k (dk h)]
 exact PI_at Cx (by kernel_rfl)
end qcoz
namespace qalz
def f (k : Fu) (a0 : List (Int × Int)) : Option Int := PI Cx (k 0) 270 [vl 155 (.pair i6 i6) a0, .sv (.one (.fn 237 []))]
def l0 (k : Fu) (x0 : List (Int × Int)) (x1 x2 : Int) : Option Int := runAt Cx (k 0) 270 [tt, ff, tt, tt] [k 1] ⟨[(0, vl 155 (.pair i6 i6) x0), (1, .sv (.one (.fn 237 []))), (7, vi x1), (8, vi x2)], [], []⟩
theorem v {a0 : List (Int × Int)} {r} (h : Ev (fun k => l0 k a0 (ln a0) 0) r) : Ev (fun k => f k a0) r := evf (fun _ _ _ => PI_at Cx (by kernel_rfl)) h
theorem v0 {x0 : List (Int × Int)} {x1 x2 : Int} {r} (h : Ev (fun k => if (iLt x2 x1) then ix x2 x0 <| (qcoz.f (rd (0, 0) x0 x2).1 (rd (0, 0) x0 x2).2).bind fun t0 =>
 if t0 then some x2 else l0 k x0 x1 (W (x2 + 1)) else some (-1)) r) : Ev (fun k => l0 k x0 x1 x2) r := evl [] 0 (fun _ _ h => by rw [← qcoz.k (dl h)]; kernel_rfl) h
end qalz
namespace qaez
def f (k : Fu) (a0 : List (Int × Int)) : Option Bool := PI Cx (k 0) 236 [vl 155 (.pair i6 i6) a0, .sv (.one (.fn 237 []))]
theorem v {a0 : List (Int × Int)} {r} (h : Ev (fun k => (qalz.f k a0).bind fun t0 =>
 some (iGe t0 0)) r) : Ev (fun k => f k a0) r := evf (fun _ _ _ => PI_at Cx (by kernel_rfl)) h
end qaez
namespace qeiz
def f (k : Fu) (a0 : List (Int × Int)) : Option Bool := PI Cx (k 0) 192 [vl 155 (.pair i6 i6) a0]
theorem v {a0 : List (Int × Int)} {r} (h : Ev (fun k => (qgwz.f (ln a0) 1 6).bind fun t0 =>
 if t0 then (qaez.f k a0).bind fun t1 =>
 some (!t1) else some false) r) : Ev (fun k => f k a0) r := evf (fun _ _ h => by rw [← qgwz.k (dl h)]; exact PI_at Cx (by kernel_rfl)) h
end qeiz
namespace qctz
def f (k : Fu) (a0 : BA) : Option ((List (Int × Int)) × Bool) := PI Cx (k 0) 137 [vs a0]
def l0 (k : Fu) (x0 : List BA) (x1 x2 : Int) (x3 : List (Int × Int)) : Option ((List (Int × Int)) × Bool) := runAt Cx (k 0) 137 [tt, tt, ff, tt, tt] [k 1] ⟨[(4, vf 1000000004000), (10, vl 9 .str x0), (11, vi x1), (12, vi x2)], [(1000000004000, .row 155 (.pair i6 i6) x3 .own)], []⟩
theorem v {a0 : BA} {r} (h : Ev (fun k => (qfbz.f a0 (bs [44])).bind fun t0 =>
 l0 k t0 (ln t0) 0 []) r) : Ev (fun k => f k a0) r := evf (fun _ _ h => by rw [← qfbz.k (dl h)]; exact PI_at Cx (by kernel_rfl)) h
theorem v0 {x0 : List BA} {x1 x2 : Int} {x3 : List (Int × Int)} {r} (h : Ev (fun k => if (iLt x2 x1) then ix x2 x0 <| (qcyz.f k (rd (bs []) x0 x2) (bs [43])).bind fun t0 =>
 if (!t0.2) then some ([], false) else if ((ln t0.1) != 2) then some ([], false) else gd (0 < (ln t0.1)) <| gd (1 < (ln t0.1)) <| gd (((lnN x3) + 1) ≤ 8796093022208) <| l0 k x0 x1 (W (x2 + 1)) (x3 ++ [((rd 0 t0.1 0), (rd 0 t0.1 1))]) else (qeiz.f k x3).bind fun t0 =>
 if (!t0) then some ([], false) else some (x3, true)) r) : Ev (fun k => l0 k x0 x1 x2 x3) r := evl [] 0 (fun _ _ _ => by kernel_rfl) h
end qctz
namespace qbuz
def f (k : Fu) (a0 : List (Int × Int)) (a1 a2 a3 a4 : Int) (a5 a6 : List (Int × Int)) (a7 : List Int) (a8 : Int) (a9 : BA) : Option (Bool × ((List (Int × Int)) × (Int × (Int × (Int × (Int × ((List (Int × Int)) × ((List (Int × Int)) × (List Int))))))))) := PI Cx (k 0) 94 [va [.sl 74 (.pair i6 i6) a0, ci a1, ci a2, ci a3, ci a4, .sl 88 (.pair i6 i6) a5, .sl 155 (.pair i6 i6) a6, .frow 3 i6 a7], .sv (.one (.int .u8 a8)), vs a9]
theorem v {a0 : List (Int × Int)} {a1 a2 a3 a4 : Int} {a5 a6 : List (Int × Int)} {a7 : List Int} {a8 : Int} {a9 : BA} {r} (h : Ev (fun k => if (a8 == 87) then (qcdz.f k a9).bind fun t0 =>
 some (t0.2, (t0.1, (a1, (a2, (a3, (a4, (a5, (a6, a7)))))))) else if (a8 == 67) then (qdrz.f k a9).bind fun t0 =>
 some (t0.2, (a0, (t0.1.1, (t0.1.2.1, (t0.1.2.2.1, (t0.1.2.2.2, (a5, (a6, a7)))))))) else if (a8 == 76) then (qdxz.f k a9).bind fun t0 =>
 some (t0.2, (a0, (a1, (a2, (a3, (a4, (t0.1, (a6, a7)))))))) else if (a8 == 86) then (qctz.f k a9).bind fun t0 =>
 some (t0.2, (a0, (a1, (a2, (a3, (a4, (a5, (t0.1, a7)))))))) else (qdgz.f a9).bind fun t0 =>
 gd (((lnN a7) + 1) ≤ 17592186044416) <| if t0.2 then (qgwz.f t0.1 0 999999).bind fun t1 =>
 some (t1, (a0, (a1, (a2, (a3, (a4, (a5, (a6, (a7 ++ [t0.1]))))))))) else some (false, (a0, (a1, (a2, (a3, (a4, (a5, (a6, (a7 ++ [t0.1])))))))))) r) : Ev (fun k => f k a0 a1 a2 a3 a4 a5 a6 a7 a8 a9) r := evf (fun _ _ h => by rw [← qdgz.k (dl h), ← qgwz.k (dl h)]; exact PI_at Cx (by kernel_rfl)) h
end qbuz
namespace qfiz
abbrev P := Int → Option BA
def f : P := fun a0 => handItoa a0
theorem k {K : Nat} (h : 1 ≤ K) : (fun a0 => PI Cx K 105 [vi a0] : P) = f := by
 obtain ⟨K, rfl⟩ := pos_of_le h
 funext a0
 exact PI_at Cx (by kernel_rfl)
end qfiz
namespace qgaz
abbrev P := List BA → BA → Option BA
def f : P := fun a0 a1 => handJoin a0 a1
theorem k {K : Nat} (h : 1 ≤ K) : (fun a0 a1 => PI Cx K 57 [vl 9 .str a0, vs a1] : P) = f := by
 obtain ⟨K, rfl⟩ := pos_of_le h
 funext a0 a1
 exact PI_at Cx (by kernel_rfl)
end qgaz
namespace qcxz
def f (k : Fu) (a0 : List Int) (a1 : BA) : Option BA := PI Cx (k 0) 56 [vl 3 i6 a0, vs a1]
def l0 (k : Fu) (x0 : BA) (x1 : List Int) (x2 x3 : Int) (x4 : List BA) : Option BA := runAt Cx (k 0) 56 [tt, tt, ff, tt, tt] [k 1] ⟨[(1, vs x0), (5, vf 1000000005000), (11, vl 3 i6 x1), (12, vi x2), (13, vi x3)], [(1000000005000, .row 9 .str x4 .own)], []⟩
theorem v {a0 : List Int} {a1 : BA} {r} (h : Ev (fun k => gd (0 ≤ (ln a0)) <| gd ((ln a0) ≤ (ln a0)) <| gd (((ln a0) * 16) ≤ 140737488355328) <| l0 k a1 a0 (ln a0) 0 (List.replicate (Int.toNat (ln a0)) (bs []))) r) : Ev (fun k => f k a0 a1) r := evf (fun _ _ _ => PI_at Cx (by kernel_rfl)) h
theorem v0 {x0 : BA} {x1 : List Int} {x2 x3 : Int} {x4 : List BA} {r} (h : Ev (fun k => if (iLt x3 x2) then ix x3 x1 <| (qfiz.f (rd 0 x1 x3)).bind fun t0 =>
 ix x3 x4 <| l0 k x0 x1 x2 (W (x3 + 1)) (List.set x4 (Int.toNat x3) t0) else (qgaz.f x4 x0).bind fun t0 =>
 some t0) r) : Ev (fun k => l0 k x0 x1 x2 x3 x4) r := evl [] 0 (fun _ _ h => by rw [← qfiz.k (dl h), ← qgaz.k (dl h)]; kernel_rfl) h
end qcxz
namespace qclz
def f (k : Fu) (a0 : List (Int × Int)) : Option (BA × Bool) := PI Cx (k 0) 21 [vl 74 (.pair i6 i6) a0]
def l0 (k : Fu) (x0 : List (Int × Int)) (x1 x2 : Int) (x3 : List BA) : Option (BA × Bool) := runAt Cx (k 0) 21 [tt, tt, tt, ff, tt, tt] [k 1] ⟨[(4, vf 1000000004000), (13, vl 74 (.pair i6 i6) x0), (14, vi x1), (15, vi x2)], [(1000000004000, .row 9 .str x3 .own)], []⟩
theorem v {a0 : List (Int × Int)} {r} (h : Ev (fun k => (qdtz.f k a0).bind fun t0 =>
 if (!t0) then some ((bs []), false) else gd (0 ≤ (ln a0)) <| gd ((ln a0) ≤ (ln a0)) <| gd (((ln a0) * 16) ≤ 140737488355328) <| l0 k a0 (ln a0) 0 (List.replicate (Int.toNat (ln a0)) (bs []))) r) : Ev (fun k => f k a0) r := evf (fun _ _ _ => PI_at Cx (by kernel_rfl)) h
theorem v0 {x0 : List (Int × Int)} {x1 x2 : Int} {x3 : List BA} {r} (h : Ev (fun k => if (iLt x2 x1) then ix x2 x0 <| (qcxz.f k [(rd (0, 0) x0 x2).1, (rd (0, 0) x0 x2).2] (bs [58])).bind fun t0 =>
 ix x2 x3 <| l0 k x0 x1 (W (x2 + 1)) (List.set x3 (Int.toNat x2) t0) else (qgaz.f x3 (bs [44])).bind fun t0 =>
 some (t0, true)) r) : Ev (fun k => l0 k x0 x1 x2 x3) r := evl [] 0 (fun _ _ h => by rw [← qgaz.k (dl h)]; kernel_rfl) h
end qclz
namespace qbqz
abbrev P := List (Int × Int) → Int → Int → Option Bool
def f : P := fun a0 a1 a2 => (qgwz.f a2 0 (W ((ln a0) - 1))).bind fun t0 =>
 some t0
theorem k {K : Nat} (h : 2 ≤ K) : (fun a0 a1 a2 => PI Cx K 139 [va [.sl 74 (.pair i6 i6) a0, ci a1], vi a2] : P) = f := by
 obtain ⟨K, rfl⟩ := pos_of_le h
 funext a0 a1 a2
 unfold f
 rw [← qgwz.k (dk h)]
 exact PI_at Cx (by kernel_rfl)
end qbqz
namespace qbfz
abbrev P := List (Int × Int) → Option (List (Int × Int))
def f : P := fun a0 => gd (a0.length ≤ 8796093022208) (some a0)
theorem k {K : Nat} (h : 1 ≤ K) : (fun a0 => PI Cx K 49 [vl 74 (.pair i6 i6) a0] : P) = f := by
 obtain ⟨K, rfl⟩ := pos_of_le h
 funext a0
 exact PI_at Cx (by kernel_rfl)
end qbfz
namespace qbez
def f (k : Fu) (a0 : List (List (Int × Int))) : Option (List (Int × Int)) := PI Cx (k 0) 140 [vl 22 (.sl 74 (.pair i6 i6)) a0]
def l0 (k : Fu) (x0 : List (List (Int × Int))) (x1 : Int) (x2 : List (List (Int × Int))) (x3 x4 : Int) : Option (List (Int × Int)) := runAt Cx (k 0) 140 [tt, tt, ff, tt, tt] [k 1] ⟨[(0, vl 22 (.sl 74 (.pair i6 i6)) x0), (3, vi x1), (9, vl 22 (.sl 74 (.pair i6 i6)) x2), (10, vi x3), (11, vi x4)], [], []⟩
def l1 (k : Fu) (x0 : List (List (Int × Int))) (x1 x2 : Int) (x3 : List (Int × Int)) : Option (List (Int × Int)) := runAt Cx (k 0) 140 [tt, tt, tt, tt, ff, tt, tt] [k 2] ⟨[(6, vf 1000000006000), (25, vl 22 (.sl 74 (.pair i6 i6)) x0), (26, vi x1), (27, vi x2)], [(1000000006000, .row 74 (.pair i6 i6) x3 .own)], []⟩
theorem v {a0 : List (List (Int × Int))} {r} (h : Ev (fun k => l0 k a0 0 a0 (ln a0) 0) r) : Ev (fun k => f k a0) r := evf (fun _ _ _ => PI_at Cx (by kernel_rfl)) h
theorem v0 {x0 : List (List (Int × Int))} {x1 : Int} {x2 : List (List (Int × Int))} {x3 x4 : Int} {r} (h : Ev (fun k => if (iLt x4 x3) then ix x4 x2 <| if (iLt (W (x1 + (ln (rd [] x2 x4)))) 0) then none else l0 k x0 (W (x1 + (ln (rd [] x2 x4)))) x2 x3 (W (x4 + 1)) else gd (0 ≤ x1) <| gd (x1 ≤ 1000000000) <| l1 k x0 (ln x0) 0 []) r) : Ev (fun k => l0 k x0 x1 x2 x3 x4) r := evl [] 0 (fun _ _ _ => by kernel_rfl) h
theorem v1 {x0 : List (List (Int × Int))} {x1 x2 : Int} {x3 : List (Int × Int)} {r} (h : Ev (fun k => if (iLt x2 x1) then ix x2 x0 <| gd (((lnN x3) + (lnN (rd [] x0 x2))) ≤ 8796093022208) <| l1 k x0 x1 (W (x2 + 1)) (x3 ++ (rd [] x0 x2)) else some x3) r) : Ev (fun k => l1 k x0 x1 x2 x3) r := evl [] 1 (fun _ _ _ => by kernel_rfl) h
end qbez
namespace qevz
abbrev P := Int → Option Bool
def f : P := fun a0 => some (a0 != a0)
theorem k {K : Nat} (h : 1 ≤ K) : (fun a0 => PI Cx K 231 [vi a0] : P) = f := by
 obtain ⟨K, rfl⟩ := pos_of_le h
 funext a0
 exact PI_at Cx (by kernel_rfl)
end qevz
namespace qdoz
abbrev P := Int → Int → Option Int
def f : P := fun a0 a1 => (qevz.f a0).bind fun t0 =>
 (qevz.f a1).bind fun t1 =>
 if t0 then if t1 then some 0 else some (-1) else if t1 then some 1 else if (iLt a0 a1) then some (-1) else if (iGt a0 a1) then some 1 else some 0
theorem k {K : Nat} (h : 2 ≤ K) : (fun a0 a1 => PI Cx K 179 [vi a0, vi a1] : P) = f := by
 obtain ⟨K, rfl⟩ := pos_of_le h
 funext a0 a1
 unfold f
 rw [← qevz.k (dk h)]
 exact PI_at Cx (by kernel_rfl)
end qdoz
namespace qbvz
abbrev P := List Int → List Int → Option Int
def f : P := fun a0 a1 => gd (2 < (ln a0)) <| gd (3 < (ln a1)) <| gd (2 < (ln a1)) <| gd (3 < (ln a0)) <| (qdoz.f (W ((rd 0 a0 2) * (rd 0 a1 3))) (W ((rd 0 a1 2) * (rd 0 a0 3)))).bind fun t0 =>
 some t0
theorem k {K : Nat} (h : 3 ≤ K) : (fun a0 a1 => PI Cx K 178 [vl 3 i6 a0, vl 3 i6 a1] : P) = f := by
 obtain ⟨K, rfl⟩ := pos_of_le h
 funext a0 a1
 unfold f
 rw [← qdoz.k (dk h)]
 exact PI_at Cx (by kernel_rfl)
end qbvz
namespace qatz
def f (k : Fu) (a0 : List (List Int)) (a1 a2 : Int) : Option (List (List Int)) := PI Cx (k 0) 267 [.sv (.one (.frow 44 (.sl 3 i6) a0)), vi a1, vi a2, .sv (.one (.fn 178 []))]
def l0 (k : Fu) (x0 x1 x2 : Int) (x3 : List (List Int)) : Option (List (List Int)) := runAt Cx (k 0) 267 [tt, tt] [k 1] ⟨[(0, vf 9000000000000001), (1, vi x0), (2, vi x1), (3, .sv (.one (.fn 178 []))), (8, vi x2)], [(9000000000000001, .row 44 (.sl 3 i6) x3 .lent)], []⟩
def l1 (k : Fu) (x0 x1 x2 x3 : Int) (x4 : List (List Int)) : Option (List (List Int)) := runAt Cx (k 0) 267 [tt, tt, tt, tt, ff, tt, tt, tt] [k 1, k 2] ⟨[(0, vf 9000000000000001), (1, vi x0), (2, vi x1), (3, .sv (.one (.fn 178 []))), (8, vi x2), (9, vi x3)], [(9000000000000001, .row 44 (.sl 3 i6) x4 .lent)], []⟩
theorem v {a0 : List (List Int)} {a1 a2 : Int} {r} (h : Ev (fun k => l0 k a1 a2 (W (a1 + 1)) a0) r) : Ev (fun k => f k a0 a1 a2) r := evf (fun _ _ _ => PI_at Cx (by kernel_rfl)) h
theorem v0 {x0 x1 x2 : Int} {x3 : List (List Int)} {r} (h : Ev (fun k => if (iLt x2 x1) then l1 k x0 x1 x2 x2 x3 else some x3) r) : Ev (fun k => l0 k x0 x1 x2 x3) r := evl [] 0 (fun _ _ _ => by kernel_rfl) h
theorem v1 {x0 x1 x2 x3 : Int} {x4 : List (List Int)} {r} (h : Ev (fun k => if (iGt x3 x0) then ix x3 x4 <| ix (W (x3 - 1)) x4 <| (qbvz.f (rd [] x4 x3) (rd [] x4 (W (x3 - 1)))).bind fun t0 =>
 if (iLt t0 0) then ix (W (x3 - 1)) x4 <| ix x3 x4 <| ix x3 x4 <| ix (W (x3 - 1)) (List.set x4 (Int.toNat x3) (rd [] x4 (W (x3 - 1)))) <| l1 k x0 x1 x2 (W (x3 - 1)) (List.set (List.set x4 (Int.toNat x3) (rd [] x4 (W (x3 - 1)))) (Int.toNat (W (x3 - 1))) (rd [] x4 x3)) else l0 k x0 x1 (W (x2 + 1)) x4 else l0 k x0 x1 (W (x2 + 1)) x4) r) : Ev (fun k => l1 k x0 x1 x2 x3 x4) r := evl [1] 1 (fun _ _ h => by rw [← qbvz.k (dl h)]; kernel_rfl) h
end qatz
namespace qazz
def f (k : Fu) (a0 : List (List Int)) (a1 a2 a3 : Int) : Option (List (List Int)) := PI Cx (k 0) 302 [.sv (.one (.frow 44 (.sl 3 i6) a0)), vi a1, vi a2, vi a3, .sv (.one (.fn 178 []))]
def l0 (k : Fu) (x0 x1 x2 x3 : Int) (x4 : List (List Int)) : Option (List (List Int)) := runAt Cx (k 0) 302 [tt, tt] [k 1] ⟨[(0, vf 9000000000000001), (1, vi x0), (2, vi x1), (3, vi x2), (10, vi x3)], [(9000000000000001, .row 44 (.sl 3 i6) x4 .lent)], []⟩
theorem v {a0 : List (List Int)} {a1 a2 a3 : Int} {r} (h : Ev (fun k => l0 k a1 a2 a3 0 a0) r) : Ev (fun k => f k a0 a1 a2 a3) r := evf (fun _ _ _ => PI_at Cx (by kernel_rfl)) h
theorem v0 {x0 x1 x2 x3 : Int} {x4 : List (List Int)} {r} (h : Ev (fun k => if (iLt x3 x2) then ix (W (x1 + x3)) x4 <| ix (W (x0 + x3)) x4 <| ix (W (x0 + x3)) x4 <| ix (W (x1 + x3)) (List.set x4 (Int.toNat (W (x0 + x3))) (rd [] x4 (W (x1 + x3)))) <| l0 k x0 x1 x2 (W (x3 + 1)) (List.set (List.set x4 (Int.toNat (W (x0 + x3))) (rd [] x4 (W (x1 + x3)))) (Int.toNat (W (x1 + x3))) (rd [] x4 (W (x0 + x3)))) else some x4) r) : Ev (fun k => l0 k x0 x1 x2 x3 x4) r := evl [] 0 (fun _ _ _ => by kernel_rfl) h
end qazz
namespace qbcz
def f (k : Fu) (a0 : List (List Int)) (a1 a2 a3 : Int) : Option (List (List Int)) := PI Cx (k 0) 290 [.sv (.one (.frow 44 (.sl 3 i6) a0)), vi a1, vi a2, vi a3, .sv (.one (.fn 178 []))]
def l0 (k : Fu) (x0 x1 x2 : Int) (x3 : List (List Int)) : Option (List (List Int)) := runAt Cx (k 0) 290 [tt, tt, ff, tt] [k 1] ⟨[(0, vf 9000000000000001), (2, vi x0), (4, .sv (.one (.fn 178 []))), (10, vi x1), (11, vi x2)], [(9000000000000001, .row 44 (.sl 3 i6) x3 .lent)], []⟩
theorem v {a0 : List (List Int)} {a1 a2 a3 : Int} {r} (h : Ev (fun k => l0 k a2 (W (a2 - a1)) (W (a3 - a2)) a0) r) : Ev (fun k => f k a0 a1 a2 a3) r := evf (fun _ _ _ => PI_at Cx (by kernel_rfl)) h
theorem v0 {x0 x1 x2 : Int} {x3 : List (List Int)} {r} (h : Ev (fun k => if (x1 != x2) then if (iGt x1 x2) then (qazz.f k x3 (W (x0 - x1)) x0 x2).bind fun t0 =>
 l0 k x0 (W (x1 - x2)) x2 t0 else (qazz.f k x3 (W (x0 - x1)) (W ((W (x0 + x2)) - x1)) x1).bind fun t0 =>
 l0 k x0 x1 (W (x2 - x1)) t0 else (qazz.f k x3 (W (x0 - x1)) x0 x1).bind fun t0 =>
 some t0) r) : Ev (fun k => l0 k x0 x1 x2 x3) r := evl [] 0 (fun _ _ _ => by kernel_rfl) h
end qbcz
end
end Go.Proofs.YtdhkgmhdengnkaaGreatDoor.Dl
