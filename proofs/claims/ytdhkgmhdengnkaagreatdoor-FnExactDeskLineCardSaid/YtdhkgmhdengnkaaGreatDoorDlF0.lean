/- What functions of the program compute. -/
import Derived.Test.YtdhkgmhdengnkaaGreatDoorDlC
namespace Go.Proofs.YtdhkgmhdengnkaaGreatDoor.Dl
open Go Go.Proofs.YtdhkgmhdengnkaaGreatDoorPi Go.RowKit
set_option maxRecDepth 100000
set_option linter.unusedVariables false
noncomputable section
namespace qemz
abbrev P := List (Int × Int) → Int → Option Int
def f : P := fun a0 a1 => if (iLt (W (a1 - (ln a0))) 0) then some (-1) else some (W (a1 - (ln a0)))
theorem k {K : Nat} (h : 1 ≤ K) : (fun a0 a1 => PI Cx K 70 [vl 150 (.pair i6 i6) a0, vi a1] : P) = f := by
 obtain ⟨K, rfl⟩ := pos_of_le h
 funext a0 a1
 exact PI_at Cx (by kernel_rfl)
end qemz
namespace qgez
abbrev P := List (Int × Int) → Int → Int → Option Int
def f : P := fun a0 a1 a2 => (qemz.f a0 a2).bind fun t0 =>
 if (iLt t0 0) then some (-1) else some t0
theorem k {K : Nat} (h : 2 ≤ K) : (fun a0 a1 a2 => PI Cx K 32 [va [.sl 150 (.pair i6 i6) a0, ci a1], vi a2] : P) = f := by
 obtain ⟨K, rfl⟩ := pos_of_le h
 funext a0 a1 a2
 unfold f
 rw [← qemz.k (dk h)]
 exact PI_at Cx (by kernel_rfl)
end qgez
namespace qezz
abbrev P := Int → Int → Option (Int × Int)
def f : P := fun a0 a1 => some (a0, a1)
theorem k {K : Nat} (h : 1 ≤ K) : (fun a0 a1 => PI Cx K 121 [va [ci a0, ci a1]] : P) = f := by
 obtain ⟨K, rfl⟩ := pos_of_le h
 funext a0 a1
 exact PI_at Cx (by kernel_rfl)
end qezz
namespace qdzz
def f (k : Fu) (a0 : List (Int × Int)) : Option (List (Int × Int)) := PI Cx (k 0) 71 [vl 150 (.pair i6 i6) a0]
def l0 (k : Fu) (x0 : List (Int × Int)) (x1 : Int) (x2 : List (Int × Int)) : Option (List (Int × Int)) := runAt Cx (k 0) 71 [tt, tt, ff, tt, tt] [k 1] ⟨[(0, vl 150 (.pair i6 i6) x0), (3, vf 1000000003000), (4, vi x1)], [(1000000003000, .row 74 (.pair i6 i6) x2 .own)], []⟩
theorem v {a0 : List (Int × Int)} {r} (h : Ev (fun k => gd (0 ≤ (ln a0)) <| gd ((ln a0) ≤ (ln a0)) <| gd (((ln a0) * 16) ≤ 140737488355328) <| l0 k a0 0 (List.replicate (Int.toNat (ln a0)) ((0 : Int), (0 : Int)))) r) : Ev (fun k => f k a0) r := evf (fun _ _ _ => PI_at Cx (by kernel_rfl)) h
theorem v0 {x0 : List (Int × Int)} {x1 : Int} {x2 : List (Int × Int)} {r} (h : Ev (fun k => if (iLt x1 (ln x0)) then ix x1 x0 <| (qezz.f (rd (0, 0) x0 x1).1 (rd (0, 0) x0 x1).2).bind fun t0 =>
 ix x1 x2 <| l0 k x0 (W (x1 + 1)) (List.set x2 (Int.toNat x1) t0) else some x2) r) : Ev (fun k => l0 k x0 x1 x2) r := evl [] 0 (fun _ _ h => by rw [← qezz.k (dl h)]; kernel_rfl) h
end qdzz
namespace qgsz
def f (k : Fu) (a0 : List (Int × Int)) (a1 : Int) : Option ((List (Int × Int)) × Int) := PI Cx (k 0) 33 [va [.sl 150 (.pair i6 i6) a0, ci a1]]
theorem v {a0 : List (Int × Int)} {a1 : Int} {r} (h : Ev (fun k => (qdzz.f k a0).bind fun t0 =>
 some (t0, a1)) r) : Ev (fun k => f k a0 a1) r := evf (fun _ _ _ => PI_at Cx (by kernel_rfl)) h
end qgsz
namespace qhxz
abbrev P := Int → Int → Int → Option Bool
def f : P := fun a0 a1 a2 => if (iGe a0 a1) then some (iLe a0 a2) else some false
theorem k {K : Nat} (h : 1 ≤ K) : (fun a0 a1 a2 => PI Cx K 97 [vi a0, vi a1, vi a2] : P) = f := by
 obtain ⟨K, rfl⟩ := pos_of_le h
 funext a0 a1 a2
 exact PI_at Cx (by kernel_rfl)
end qhxz
namespace qgqz
abbrev P := Int → Int → Option Bool
def f : P := fun a0 a1 => (qhxz.f a0 (-1000) 1000).bind fun t0 =>
 if t0 then (qhxz.f a1 (-100) 100).bind fun t1 =>
 some t1 else some false
theorem k {K : Nat} (h : 2 ≤ K) : (fun a0 a1 => PI Cx K 143 [va [ci a0, ci a1]] : P) = f := by
 obtain ⟨K, rfl⟩ := pos_of_le h
 funext a0 a1
 unfold f
 rw [← qhxz.k (dk h)]
 exact PI_at Cx (by kernel_rfl)
end qgqz
namespace qhrz
def f (k : Fu) (a0 : List (Int × Int)) : Option Bool := PI Cx (k 0) 96 [vl 74 (.pair i6 i6) a0]
def l0 (k : Fu) (x0 : List (Int × Int)) (x1 x2 : Int) : Option Bool := runAt Cx (k 0) 96 [tt, tt, ff, tt, tt] [k 1] ⟨[(9, vl 74 (.pair i6 i6) x0), (10, vi x1), (11, vi x2)], [], []⟩
theorem v {a0 : List (Int × Int)} {r} (h : Ev (fun k => (qhxz.f (ln a0) 1 8).bind fun t0 =>
 if (!t0) then some false else l0 k a0 (ln a0) 0) r) : Ev (fun k => f k a0) r := evf (fun _ _ h => by rw [← qhxz.k (dl h)]; exact PI_at Cx (by kernel_rfl)) h
theorem v0 {x0 : List (Int × Int)} {x1 x2 : Int} {r} (h : Ev (fun k => if (iLt x2 x1) then ix x2 x0 <| (qgqz.f (rd (0, 0) x0 x2).1 (rd (0, 0) x0 x2).2).bind fun t0 =>
 if (!t0) then some false else l0 k x0 x1 (W (x2 + 1)) else some true) r) : Ev (fun k => l0 k x0 x1 x2) r := evl [] 0 (fun _ _ h => by rw [← qgqz.k (dl h)]; kernel_rfl) h
end qhrz
namespace qhbz
def f (k : Fu) (a0 : List (Int × Int)) (a1 : Int) : Option Bool := PI Cx (k 0) 50 [va [.sl 74 (.pair i6 i6) a0, ci a1]]
theorem v {a0 : List (Int × Int)} {a1 : Int} {r} (h : Ev (fun k => (qhrz.f k a0).bind fun t0 =>
 if t0 then (qhxz.f a1 1 1000).bind fun t1 =>
 some t1 else some false) r) : Ev (fun k => f k a0 a1) r := evf (fun _ _ h => by rw [← qhxz.k (dl h)]; exact PI_at Cx (by kernel_rfl)) h
end qhbz
namespace qftz
def f (k : Fu) (a0 : BA) (a1 : Int) : Option (List BA) := PI Cx (k 0) 51 [vs a0, .sv (.one (.int .u8 a1))]
def l0 (k : Fu) (x0 : BA) (x1 x2 x3 : Int) (x4 : List BA) : Option (List BA) := runAt Cx (k 0) 51 [tt, tt, tt, ff, tt, tt] [k 1] ⟨[(0, vs x0), (1, .sv (.one (.int .u8 x1))), (5, vf 1000000005000), (6, vi x2), (7, vi x3)], [(1000000005000, .row 9 .str x4 .own)], []⟩
theorem v {a0 : BA} {a1 : Int} {r} (h : Ev (fun k => l0 k a0 a1 0 0 []) r) : Ev (fun k => f k a0 a1) r := evf (fun _ _ _ => PI_at Cx (by kernel_rfl)) h
theorem v0 {x0 : BA} {x1 x2 x3 : Int} {x4 : List BA} {r} (h : Ev (fun k => if (iLt x3 (sln x0)) then gd (0 ≤ x3) <| gd (x3 < (sln x0)) <| if ((bat x0 x3) == x1) then gd (0 ≤ x2) <| gd (x2 ≤ x3) <| gd (x3 ≤ (sln x0)) <| gd (((lnN x4) + 1) ≤ 8796093022208) <| l0 k x0 x1 (W (x3 + 1)) (W (x3 + 1)) (x4 ++ [(ByteArray.extract x0 (Int.toNat x2) (Int.toNat x3))]) else l0 k x0 x1 x2 (W (x3 + 1)) x4 else gd (0 ≤ x2) <| gd (x2 ≤ (sln x0)) <| gd (((lnN x4) + 1) ≤ 8796093022208) <| some (x4 ++ [(ByteArray.extract x0 (Int.toNat x2) (Int.toNat (sln x0)))])) r) : Ev (fun k => l0 k x0 x1 x2 x3 x4) r := evl [] 0 (fun _ _ _ => by kernel_rfl) h
end qftz
namespace qfmz
abbrev P := BA → Option BA
def f : P := fun a0 => if (seq a0 (bs [115, 104, 111, 119])) then some (bs []) else if (seq a0 (bs [112, 97, 105, 114, 115])) then some (bs []) else if (seq a0 (bs [102, 105, 114, 115, 116])) then some (bs []) else if (seq a0 (bs [108, 101, 97, 100])) then some (bs []) else if (seq a0 (bs [108, 97, 115, 116])) then some (bs []) else if (seq a0 (bs [115, 116, 97, 114, 116])) then some (bs []) else if (seq a0 (bs [114, 105, 110, 103])) then some (bs [110]) else if (seq a0 (bs [116, 117, 114, 110])) then some (bs [110]) else if (seq a0 (bs [100, 114, 111, 112])) then some (bs [110]) else if (seq a0 (bs [97, 116])) then some (bs [110]) else if (seq a0 (bs [109, 101, 101, 116])) then some (bs [110, 110]) else if (seq a0 (bs [119, 104, 101, 114, 101])) then some (bs [110, 110]) else if (seq a0 (bs [97, 114, 111, 117, 110, 100])) then some (bs [110, 110]) else if (seq a0 (bs [103, 97, 112])) then some (bs [110, 110]) else if (seq a0 (bs [112, 108, 97, 99, 101, 115])) then some (bs [110, 110]) else if (seq a0 (bs [99, 104, 97, 110, 99, 101])) then some (bs [110, 110, 110]) else if (seq a0 (bs [119, 97, 108, 107, 101, 114, 115])) then some (bs [119]) else if (seq a0 (bs [97, 100, 100])) then some (bs [119]) else if (seq a0 (bs [100, 111, 103])) then some (bs [99]) else if (seq a0 (bs [114, 117, 110])) then some (bs [99]) else if (seq a0 (bs [97, 112, 97, 114, 116])) then some (bs [99, 110]) else if (seq a0 (bs [109, 101, 97, 110])) then some (bs [108]) else if (seq a0 (bs [116, 105, 109, 101])) then some (bs [108]) else if (seq a0 (bs [110, 101, 101, 100])) then some (bs [108, 110, 110]) else if (seq a0 (bs [118, 105, 115, 105, 116, 115])) then some (bs [118]) else if (seq a0 (bs [103, 117, 105, 100, 101, 115])) then some (bs [118]) else some (bs [63])
theorem k {K : Nat} (h : 1 ≤ K) : (fun a0 => PI Cx K 144 [vs a0] : P) = f := by
 obtain ⟨K, rfl⟩ := pos_of_le h
 funext a0
 exact PI_at Cx (by kernel_rfl)
end qfmz
namespace qgiz
def f (k : Fu) (a0 : BA) : Option Int := PI Cx (k 0) 145 [vs a0]
def l0 (k : Fu) (x0 : BA) (x1 x2 : Int) : Option Int := runAt Cx (k 0) 145 [tt, tt, tt, ff, tt, tt] [k 1] ⟨[(0, vs x0), (3, vi x1), (4, vi x2)], [], []⟩
theorem v {a0 : BA} {r} (h : Ev (fun k => (qhxz.f (sln a0) 1 6).bind fun t0 =>
 if (!t0) then some (-1) else gd (0 < (sln a0)) <| if ((bat a0 0) == 48) then if (iGt (sln a0) 1) then some (-1) else l0 k a0 0 0 else l0 k a0 0 0) r) : Ev (fun k => f k a0) r := evf (fun _ _ h => by rw [← qhxz.k (dl h)]; exact PI_at Cx (by kernel_rfl)) h
theorem v0 {x0 : BA} {x1 x2 : Int} {r} (h : Ev (fun k => if (iLt x2 (sln x0)) then gd (0 ≤ x2) <| gd (x2 < (sln x0)) <| if (iLt (bat x0 x2) 48) then some (-1) else gd (0 ≤ x2) <| gd (x2 < (sln x0)) <| if (iGt (bat x0 x2) 57) then some (-1) else gd (0 ≤ x2) <| gd (x2 < (sln x0)) <| l0 k x0 (W ((W (10 * x1)) + (W (IntKind.wrap .u8 ((bat x0 x2) - 48))))) (W (x2 + 1)) else some x1) r) : Ev (fun k => l0 k x0 x1 x2) r := evl [] 0 (fun _ _ _ => by kernel_rfl) h
end qgiz
namespace qhez
def f (k : Fu) (a0 : BA) : Option (Int × Bool) := PI Cx (k 0) 205 [vs a0]
theorem v {a0 : BA} {r} (h : Ev (fun k => if (iGt (sln a0) 1) then gd (0 < (sln a0)) <| if ((bat a0 0) == 45) then gd (1 ≤ (sln a0)) <| (qgiz.f k (ByteArray.extract a0 1 (Int.toNat (sln a0)))).bind fun t0 =>
 some ((W (0 - t0)), (iGt t0 0)) else (qgiz.f k a0).bind fun t0 =>
 some (t0, (iGe t0 0)) else (qgiz.f k a0).bind fun t0 =>
 some (t0, (iGe t0 0))) r) : Ev (fun k => f k a0) r := evf (fun _ _ _ => PI_at Cx (by kernel_rfl)) h
end qhez
namespace qfkz
def f (k : Fu) (a0 : BA) : Option ((List (Int × Int)) × Bool) := PI Cx (k 0) 146 [vs a0]
def l0 (k : Fu) (x0 : List BA) (x1 x2 : Int) (x3 : List (Int × Int)) : Option ((List (Int × Int)) × Bool) := runAt Cx (k 0) 146 [tt, tt, tt, ff, tt, tt] [k 1] ⟨[(4, vf 1000000004000), (16, vl 9 .str x0), (17, vi x1), (18, vi x2)], [(1000000004000, .row 74 (.pair i6 i6) x3 .own)], []⟩
theorem v {a0 : BA} {r} (h : Ev (fun k => if (iGt (sln a0) 100) then some ([], false) else (qftz.f k a0 44).bind fun t0 =>
 l0 k t0 (ln t0) 0 []) r) : Ev (fun k => f k a0) r := evf (fun _ _ _ => PI_at Cx (by kernel_rfl)) h
theorem v0 {x0 : List BA} {x1 x2 : Int} {x3 : List (Int × Int)} {r} (h : Ev (fun k => if (iLt x2 x1) then ix x2 x0 <| (qftz.f k (rd (bs []) x0 x2) 58).bind fun t0 =>
 if ((ln t0) != 2) then some ([], false) else gd (0 < (ln t0)) <| (qhez.f k (rd (bs []) t0 0)).bind fun t1 =>
 gd (1 < (ln t0)) <| (qhez.f k (rd (bs []) t0 1)).bind fun t2 =>
 if (!t1.2) then some ([], false) else if (!t2.2) then some ([], false) else gd (((lnN x3) + 1) ≤ 8796093022208) <| l0 k x0 x1 (W (x2 + 1)) (x3 ++ [(t1.1, t2.1)]) else (qhrz.f k x3).bind fun t0 =>
 if (!t0) then some ([], false) else some (x3, true)) r) : Ev (fun k => l0 k x0 x1 x2 x3) r := evl [] 0 (fun _ _ _ => by kernel_rfl) h
end qfkz
namespace qgcz
abbrev P := Int → Int → Option Int
def f : P := fun a0 a1 => if (iGt a0 a1) then some a0 else some a1
theorem k {K : Nat} (h : 1 ≤ K) : (fun a0 a1 => PI Cx K 131 [vi a0, vi a1] : P) = f := by
 obtain ⟨K, rfl⟩ := pos_of_le h
 funext a0 a1
 exact PI_at Cx (by kernel_rfl)
end qgcz
namespace qhgz
abbrev P := Int → Int → Int → Int → Option Bool
def f : P := fun a0 a1 a2 a3 => (qhxz.f a0 1 1000).bind fun t0 =>
 if t0 then (qhxz.f a1 0 20).bind fun t1 =>
 if t1 then (qhxz.f a2 0 20).bind fun t2 =>
 if t2 then if (iGt (W (a1 + a2)) 0) then (qgcz.f a1 a2).bind fun t3 =>
 (qhxz.f a3 (W (t3 + 1)) 20).bind fun t4 =>
 some t4 else some false else some false else some false else some false
theorem k {K : Nat} (h : 2 ≤ K) : (fun a0 a1 a2 a3 => PI Cx K 206 [va [ci a0, ci a1, ci a2, ci a3]] : P) = f := by
 obtain ⟨K, rfl⟩ := pos_of_le h
 funext a0 a1 a2 a3
 unfold f
 rw [← qhxz.k (dk h), ← qgcz.k (dk h)]
 exact PI_at Cx (by kernel_rfl)
end qhgz
namespace qfzz
def f (k : Fu) (a0 : BA) : Option ((Int × (Int × (Int × Int))) × Bool) := PI Cx (k 0) 147 [vs a0]
theorem v {a0 : BA} {r} (h : Ev (fun k => (qftz.f k a0 45).bind fun t0 =>
 if (iGt (sln a0) 16) then some ((0, (0, (0, 0))), false) else if ((ln t0) != 4) then some ((0, (0, (0, 0))), false) else gd (0 < (ln t0)) <| (qgiz.f k (rd (bs []) t0 0)).bind fun t1 =>
 gd (1 < (ln t0)) <| (qgiz.f k (rd (bs []) t0 1)).bind fun t2 =>
 gd (2 < (ln t0)) <| (qgiz.f k (rd (bs []) t0 2)).bind fun t3 =>
 gd (3 < (ln t0)) <| (qgiz.f k (rd (bs []) t0 3)).bind fun t4 =>
 (qhgz.f t1 t2 t3 t4).bind fun t5 =>
 if (!t5) then some ((0, (0, (0, 0))), false) else some ((t1, (t2, (t3, t4))), true)) r) : Ev (fun k => f k a0) r := evf (fun _ _ h => by rw [← qhgz.k (dl h)]; exact PI_at Cx (by kernel_rfl)) h
end qfzz
namespace qgmz
def f (k : Fu) (a0 : List (Int × Int)) : Option Bool := PI Cx (k 0) 207 [vl 88 (.pair i6 i6) a0]
def l0 (k : Fu) (x0 : List (Int × Int)) (x1 x2 : Int) : Option Bool := runAt Cx (k 0) 207 [tt, tt, ff, tt, tt] [k 1] ⟨[(9, vl 88 (.pair i6 i6) x0), (10, vi x1), (11, vi x2)], [], []⟩
theorem v {a0 : List (Int × Int)} {r} (h : Ev (fun k => (qhxz.f (ln a0) 1 5).bind fun t0 =>
 if (!t0) then some false else l0 k a0 (ln a0) 0) r) : Ev (fun k => f k a0) r := evf (fun _ _ h => by rw [← qhxz.k (dl h)]; exact PI_at Cx (by kernel_rfl)) h
theorem v0 {x0 : List (Int × Int)} {x1 x2 : Int} {r} (h : Ev (fun k => if (iLt x2 x1) then ix x2 x0 <| (qhxz.f (rd (0, 0) x0 x2).1 1 1000).bind fun t0 =>
 if (!t0) then some false else (qhxz.f (rd (0, 0) x0 x2).2 1 100).bind fun t1 =>
 if (!t1) then some false else l0 k x0 x1 (W (x2 + 1)) else some true) r) : Ev (fun k => l0 k x0 x1 x2) r := evl [] 0 (fun _ _ h => by rw [← qhxz.k (dl h)]; kernel_rfl) h
end qgmz
namespace qfoz
def f (k : Fu) (a0 : BA) : Option ((List (Int × Int)) × Bool) := PI Cx (k 0) 148 [vs a0]
def l0 (k : Fu) (x0 : List BA) (x1 x2 : Int) (x3 : List (Int × Int)) : Option ((List (Int × Int)) × Bool) := runAt Cx (k 0) 148 [tt, tt, tt, ff, tt, tt] [k 1] ⟨[(4, vf 1000000004000), (12, vl 9 .str x0), (13, vi x1), (14, vi x2)], [(1000000004000, .row 88 (.pair i6 i6) x3 .own)], []⟩
theorem v {a0 : BA} {r} (h : Ev (fun k => if (iGt (sln a0) 80) then some ([], false) else (qftz.f k a0 43).bind fun t0 =>
 l0 k t0 (ln t0) 0 []) r) : Ev (fun k => f k a0) r := evf (fun _ _ _ => PI_at Cx (by kernel_rfl)) h
theorem v0 {x0 : List BA} {x1 x2 : Int} {x3 : List (Int × Int)} {r} (h : Ev (fun k => if (iLt x2 x1) then ix x2 x0 <| (qftz.f k (rd (bs []) x0 x2) 47).bind fun t0 =>
 if ((ln t0) != 2) then some ([], false) else gd (0 < (ln t0)) <| (qgiz.f k (rd (bs []) t0 0)).bind fun t1 =>
 gd (1 < (ln t0)) <| (qgiz.f k (rd (bs []) t0 1)).bind fun t2 =>
 gd (((lnN x3) + 1) ≤ 8796093022208) <| l0 k x0 x1 (W (x2 + 1)) (x3 ++ [(t1, t2)]) else (qgmz.f k x3).bind fun t0 =>
 if (!t0) then some ([], false) else some (x3, true)) r) : Ev (fun k => l0 k x0 x1 x2 x3) r := evl [] 0 (fun _ _ _ => by kernel_rfl) h
end qfoz
namespace qghz
def f (k : Fu) (a0 : List (Int × Int)) : Option Bool := PI Cx (k 0) 208 [vl 155 (.pair i6 i6) a0]
def l0 (k : Fu) (x0 : List (Int × Int)) (x1 x2 : Int) : Option Bool := runAt Cx (k 0) 208 [tt, tt, ff, tt, tt] [k 1] ⟨[(9, vl 155 (.pair i6 i6) x0), (10, vi x1), (11, vi x2)], [], []⟩
theorem v {a0 : List (Int × Int)} {r} (h : Ev (fun k => (qhxz.f (ln a0) 1 6).bind fun t0 =>
 if (!t0) then some false else l0 k a0 (ln a0) 0) r) : Ev (fun k => f k a0) r := evf (fun _ _ h => by rw [← qhxz.k (dl h)]; exact PI_at Cx (by kernel_rfl)) h
theorem v0 {x0 : List (Int × Int)} {x1 x2 : Int} {r} (h : Ev (fun k => if (iLt x2 x1) then ix x2 x0 <| (qhxz.f (rd (0, 0) x0 x2).1 0 200).bind fun t0 =>
 if (!t0) then some false else (qhxz.f (rd (0, 0) x0 x2).2 0 200).bind fun t1 =>
 if (!t1) then some false else l0 k x0 x1 (W (x2 + 1)) else some true) r) : Ev (fun k => l0 k x0 x1 x2) r := evl [] 0 (fun _ _ h => by rw [← qhxz.k (dl h)]; kernel_rfl) h
end qghz
namespace qfxz
def f (k : Fu) (a0 : BA) : Option ((List (Int × Int)) × Bool) := PI Cx (k 0) 149 [vs a0]
def l0 (k : Fu) (x0 : List BA) (x1 x2 : Int) (x3 : List (Int × Int)) : Option ((List (Int × Int)) × Bool) := runAt Cx (k 0) 149 [tt, tt, tt, ff, tt, tt] [k 1] ⟨[(4, vf 1000000004000), (12, vl 9 .str x0), (13, vi x1), (14, vi x2)], [(1000000004000, .row 155 (.pair i6 i6) x3 .own)], []⟩
theorem v {a0 : BA} {r} (h : Ev (fun k => if (iGt (sln a0) 60) then some ([], false) else (qftz.f k a0 44).bind fun t0 =>
 l0 k t0 (ln t0) 0 []) r) : Ev (fun k => f k a0) r := evf (fun _ _ _ => PI_at Cx (by kernel_rfl)) h
theorem v0 {x0 : List BA} {x1 x2 : Int} {x3 : List (Int × Int)} {r} (h : Ev (fun k => if (iLt x2 x1) then ix x2 x0 <| (qftz.f k (rd (bs []) x0 x2) 43).bind fun t0 =>
 if ((ln t0) != 2) then some ([], false) else gd (0 < (ln t0)) <| (qgiz.f k (rd (bs []) t0 0)).bind fun t1 =>
 gd (1 < (ln t0)) <| (qgiz.f k (rd (bs []) t0 1)).bind fun t2 =>
 gd (((lnN x3) + 1) ≤ 8796093022208) <| l0 k x0 x1 (W (x2 + 1)) (x3 ++ [(t1, t2)]) else (qghz.f k x3).bind fun t0 =>
 if (!t0) then some ([], false) else some (x3, true)) r) : Ev (fun k => l0 k x0 x1 x2 x3) r := evl [] 0 (fun _ _ _ => by kernel_rfl) h
end qfxz
namespace qhdz
def f (k : Fu) (a0 : List (Int × Int)) (a1 : Int) (a2 : BA) : Option (BA × (((List (Int × Int)) × (Int × ((List (Int × Int)) × (Int × (Int × (Int × (Int × ((List (Int × Int)) × ((List (Int × Int)) × (List Int)))))))))) × Bool)) := PI Cx (k 0) 98 [va [.sl 74 (.pair i6 i6) a0, ci a1], vs a2]
def l0 (k : Fu) (x0 : List BA) (x1 : BA) (x2 : List BA) (x3 x4 x5 x6 x7 x8 x9 : Int) (x10 : List (Int × Int)) (x11 : Int) (x12 : List (Int × Int)) (x13 x14 x15 x16 : Int) (x17 x18 : List (Int × Int)) (x19 : List Int) : Option (BA × (((List (Int × Int)) × (Int × ((List (Int × Int)) × (Int × (Int × (Int × (Int × ((List (Int × Int)) × ((List (Int × Int)) × (List Int)))))))))) × Bool)) := runAt Cx (k 0) 98 [tt, tt, tt, tt, tt, ff, tt, tt] [k 1] ⟨[(5, vp 2000 0), (7, vp 1002000 0), (8, vl 9 .str x0), (9, vs x1), (30, vl 9 .str x2), (31, vi x3), (32, vi x4)], [(2000, .box 124 [.nilsl, ci x5, .nilsl, ci x6, ci x7, ci x8, ci x9, .nilsl, .nilsl, .nilsl]), (1002000, .box 124 [.sl 74 (.pair i6 i6) x10, ci x11, .sl 74 (.pair i6 i6) x12, ci x13, ci x14, ci x15, ci x16, .sl 88 (.pair i6 i6) x17, .sl 155 (.pair i6 i6) x18, .full 2000001002000009]), (2000001002000009, .row 3 i6 x19 .own)], []⟩
theorem v {a0 : List (Int × Int)} {a1 : Int} {a2 : BA} {r} (h : Ev (fun k => (qftz.f k a2 32).bind fun t0 =>
 gd (0 < (ln t0)) <| (qfmz.f (rd (bs []) t0 0)).bind fun t1 =>
 if ((sln t1) != (W ((ln t0) - 1))) then some ((bs []), ((a0, (a1, ([], (0, (0, (0, (0, ([], ([], []))))))))), false)) else gd (1 ≤ (ln t0)) <| l0 k t0 t1 (List.drop 1 t0) (ln (List.drop 1 t0)) 0 0 0 0 0 0 a0 a1 [] 0 0 0 0 [] [] []) r) : Ev (fun k => f k a0 a1 a2) r := evf (fun _ _ h => by rw [← qfmz.k (dl h)]; exact PI_at Cx (by kernel_rfl)) h
theorem v0 {x0 : List BA} {x1 : BA} {x2 : List BA} {x3 x4 x5 x6 x7 x8 x9 : Int} {x10 : List (Int × Int)} {x11 : Int} {x12 : List (Int × Int)} {x13 x14 x15 x16 : Int} {x17 x18 : List (Int × Int)} {x19 : List Int} {r} (h : Ev (fun k => if (iLt x4 x3) then ix x4 x2 <| gd (0 ≤ x4) <| gd (x4 < (sln x1)) <| if ((bat x1 x4) == 110) then (qgiz.f k (rd (bs []) x2 x4)).bind fun t0 =>
 gd (((lnN x19) + 1) ≤ 17592186044416) <| if (!(iGe t0 0)) then some ((bs []), ((x10, (x11, (x12, (x13, (x14, (x15, (x16, (x17, (x18, (x19 ++ [t0])))))))))), false)) else l0 k x0 x1 x2 x3 (W (x4 + 1)) x5 x6 x7 x8 x9 x10 x11 x12 x13 x14 x15 x16 x17 x18 (x19 ++ [t0]) else if ((bat x1 x4) == 119) then (qfkz.f k (rd (bs []) x2 x4)).bind fun t0 =>
 if (!t0.2) then some ((bs []), ((x10, (x11, (t0.1, (x13, (x14, (x15, (x16, (x17, (x18, x19))))))))), false)) else l0 k x0 x1 x2 x3 (W (x4 + 1)) x5 x6 x7 x8 x9 x10 x11 t0.1 x13 x14 x15 x16 x17 x18 x19 else if ((bat x1 x4) == 99) then (qfzz.f k (rd (bs []) x2 x4)).bind fun t0 =>
 if (!t0.2) then some ((bs []), ((x10, (x11, (x12, (t0.1.1, (t0.1.2.1, (t0.1.2.2.1, (t0.1.2.2.2, (x17, (x18, x19))))))))), false)) else l0 k x0 x1 x2 x3 (W (x4 + 1)) x5 x6 x7 x8 x9 x10 x11 x12 t0.1.1 t0.1.2.1 t0.1.2.2.1 t0.1.2.2.2 x17 x18 x19 else if ((bat x1 x4) == 108) then (qfoz.f k (rd (bs []) x2 x4)).bind fun t0 =>
 if (!t0.2) then some ((bs []), ((x10, (x11, (x12, (x13, (x14, (x15, (x16, (t0.1, (x18, x19))))))))), false)) else l0 k x0 x1 x2 x3 (W (x4 + 1)) x5 x6 x7 x8 x9 x10 x11 x12 x13 x14 x15 x16 t0.1 x18 x19 else if ((bat x1 x4) == 118) then (qfxz.f k (rd (bs []) x2 x4)).bind fun t0 =>
 if (!t0.2) then some ((bs []), ((x10, (x11, (x12, (x13, (x14, (x15, (x16, (x17, (t0.1, x19))))))))), false)) else l0 k x0 x1 x2 x3 (W (x4 + 1)) x5 x6 x7 x8 x9 x10 x11 x12 x13 x14 x15 x16 x17 t0.1 x19 else some ((bs []), ((x10, (x11, (x12, (x13, (x14, (x15, (x16, (x17, (x18, x19))))))))), false)) else gd (0 < (ln x0)) <| some ((rd (bs []) x0 0), ((x10, (x11, (x12, (x13, (x14, (x15, (x16, (x17, (x18, x19))))))))), true))) r) : Ev (fun k => l0 k x0 x1 x2 x3 x4 x5 x6 x7 x8 x9 x10 x11 x12 x13 x14 x15 x16 x17 x18 x19) r := evl [] 0 (fun _ _ _ => by kernel_rfl) h
end qhdz
namespace qhoz
def f (k : Fu) (a0 : Int) : Option BA := PI Cx (k 0) 84 [vi a0]
theorem v {a0 : Int} {r} (h : Ev (fun k => if (iLt a0 10) then some (bytesOf [(IntKind.wrap .u8 (W (48 + a0)))]) else (f k (W (Int.tdiv a0 10))).bind fun t0 =>
 gd (((ByteArray.size t0) + (ByteArray.size (bytesOf [(IntKind.wrap .u8 (W (48 + (Int.tmod a0 10))))]))) ≤ maxLen) <| some (t0 ++ (bytesOf [(IntKind.wrap .u8 (W (48 + (Int.tmod a0 10))))]))) r) : Ev (fun k => f k a0) r := evf (fun _ _ _ => PI_at Cx (by kernel_rfl)) h
end qhoz
namespace qhpz
def f (k : Fu) (a0 : Int) : Option BA := PI Cx (k 0) 130 [vi a0]
theorem v {a0 : Int} {r} (h : Ev (fun k => if (iLt a0 0) then (qhoz.f k (W (0 - a0))).bind fun t0 =>
 gd ((1 + (ByteArray.size t0)) ≤ maxLen) <| some ((bs [45]) ++ t0) else (qhoz.f k a0).bind fun t0 =>
 some t0) r) : Ev (fun k => f k a0) r := evf (fun _ _ _ => PI_at Cx (by kernel_rfl)) h
end qhpz
namespace qggz
def f (k : Fu) (a0 : List (Int × Int)) : Option BA := PI Cx (k 0) 82 [vl 74 (.pair i6 i6) a0]
def l0 (k : Fu) (x0 : BA) (x1 : List (Int × Int)) (x2 x3 : Int) : Option BA := runAt Cx (k 0) 82 [tt, tt, ff, tt, tt] [k 1] ⟨[(3, vs x0), (6, vl 74 (.pair i6 i6) x1), (7, vi x2), (8, vi x3)], [], []⟩
theorem v {a0 : List (Int × Int)} {r} (h : Ev (fun k => l0 k (bs []) a0 (ln a0) 0) r) : Ev (fun k => f k a0) r := evf (fun _ _ _ => PI_at Cx (by kernel_rfl)) h
theorem v0 {x0 : BA} {x1 : List (Int × Int)} {x2 x3 : Int} {r} (h : Ev (fun k => if (iLt x3 x2) then ix x3 x1 <| if (iGt x3 0) then gd (((ByteArray.size x0) + 1) ≤ maxLen) <| (qhpz.f k (rd (0, 0) x1 x3).1).bind fun t0 =>
 gd (((ByteArray.size t0) + 1) ≤ maxLen) <| (qhpz.f k (rd (0, 0) x1 x3).2).bind fun t1 =>
 gd (((ByteArray.size (t0 ++ (bs [58]))) + (ByteArray.size t1)) ≤ maxLen) <| gd (((ByteArray.size (x0 ++ (bs [44]))) + (ByteArray.size ((t0 ++ (bs [58])) ++ t1))) ≤ maxLen) <| l0 k ((x0 ++ (bs [44])) ++ ((t0 ++ (bs [58])) ++ t1)) x1 x2 (W (x3 + 1)) else (qhpz.f k (rd (0, 0) x1 x3).1).bind fun t0 =>
 gd (((ByteArray.size t0) + 1) ≤ maxLen) <| (qhpz.f k (rd (0, 0) x1 x3).2).bind fun t1 =>
 gd (((ByteArray.size (t0 ++ (bs [58]))) + (ByteArray.size t1)) ≤ maxLen) <| gd (((ByteArray.size x0) + (ByteArray.size ((t0 ++ (bs [58])) ++ t1))) ≤ maxLen) <| l0 k (x0 ++ ((t0 ++ (bs [58])) ++ t1)) x1 x2 (W (x3 + 1)) else some x0) r) : Ev (fun k => l0 k x0 x1 x2 x3) r := evl [] 0 (fun _ _ _ => by kernel_rfl) h
end qggz
namespace qdpz
def f (k : Fu) (a0 : List (Int × Int)) (a1 : Int) (a2 : List (Int × Int)) (a3 a4 a5 a6 : Int) (a7 a8 : List (Int × Int)) (a9 : List Int) (a10 : List (Int × Int)) : Option (BA × ((List (Int × Int)) × (Int × ((List (Int × Int)) × (Int × (Int × (Int × (Int × ((List (Int × Int)) × ((List (Int × Int)) × (List Int))))))))))) := PI Cx (k 0) 150 [va [.sl 74 (.pair i6 i6) a0, ci a1, .sl 74 (.pair i6 i6) a2, ci a3, ci a4, ci a5, ci a6, .sl 88 (.pair i6 i6) a7, .sl 155 (.pair i6 i6) a8, .sl 3 i6 a9], vl 74 (.pair i6 i6) a10]
theorem v {a0 : List (Int × Int)} {a1 : Int} {a2 : List (Int × Int)} {a3 a4 a5 a6 : Int} {a7 a8 : List (Int × Int)} {a9 : List Int} {a10 : List (Int × Int)} {r} (h : Ev (fun k => (qhrz.f k a10).bind fun t0 =>
 if (!t0) then some ((bs [110, 111]), (a0, (a1, (a2, (a3, (a4, (a5, (a6, (a7, (a8, a9)))))))))) else (qggz.f k a10).bind fun t1 =>
 some (t1, (a10, (a1, (a2, (a3, (a4, (a5, (a6, (a7, (a8, a9))))))))))) r) : Ev (fun k => f k a0 a1 a2 a3 a4 a5 a6 a7 a8 a9 a10) r := evf (fun _ _ _ => PI_at Cx (by kernel_rfl)) h
end qdpz
namespace qcaz
def f (k : Fu) (a0 : List (Int × Int)) (a1 : Int) (a2 : List (Int × Int)) (a3 a4 a5 a6 : Int) (a7 a8 : List (Int × Int)) (a9 : List Int) (a10 : BA) : Option (BA × ((List (Int × Int)) × (Int × ((List (Int × Int)) × (Int × (Int × (Int × (Int × ((List (Int × Int)) × ((List (Int × Int)) × (List Int))))))))))) := PI Cx (k 0) 99 [va [.sl 74 (.pair i6 i6) a0, ci a1, .sl 74 (.pair i6 i6) a2, ci a3, ci a4, ci a5, ci a6, .sl 88 (.pair i6 i6) a7, .sl 155 (.pair i6 i6) a8, .sl 3 i6 a9], vs a10]
theorem v {a0 : List (Int × Int)} {a1 : Int} {a2 : List (Int × Int)} {a3 a4 a5 a6 : Int} {a7 a8 : List (Int × Int)} {a9 : List Int} {a10 : BA} {r} (h : Ev (fun k => gd ((0 + (lnN a0)) ≤ 8796093022208) <| if (seq a10 (bs [119, 97, 108, 107, 101, 114, 115])) then (qdpz.f k a0 a1 a2 a3 a4 a5 a6 a7 a8 a9 a2).bind fun t0 =>
 some t0 else if (seq a10 (bs [97, 100, 100])) then gd (((lnN ([] ++ a0)) + (lnN a2)) ≤ 8796093022208) <| (qdpz.f k a0 a1 a2 a3 a4 a5 a6 a7 a8 a9 (([] ++ a0) ++ a2)).bind fun t0 =>
 some t0 else if (seq a10 (bs [114, 105, 110, 103])) then gd (0 < (ln a9)) <| (qhxz.f (rd 0 a9 0) 1 1000).bind fun t0 =>
 if (!t0) then some ((bs [110, 111]), (a0, (a1, (a2, (a3, (a4, (a5, (a6, (a7, (a8, a9)))))))))) else gd (0 < (ln a9)) <| (qggz.f k ([] ++ a0)).bind fun t1 =>
 some (t1, (a0, ((rd 0 a9 0), (a2, (a3, (a4, (a5, (a6, (a7, (a8, a9)))))))))) else gd (0 < (ln a9)) <| if (iGe (rd 0 a9 0) (ln ([] ++ a0))) then some ((bs [110, 111]), (a0, (a1, (a2, (a3, (a4, (a5, (a6, (a7, (a8, a9)))))))))) else if (seq a10 (bs [116, 117, 114, 110])) then gd (0 < (ln a9)) <| gd (0 < (ln a9)) <| ix (rd 0 a9 0) ([] ++ a0) <| ix (rd 0 a9 0) ([] ++ a0) <| (qdpz.f k a0 a1 a2 a3 a4 a5 a6 a7 a8 a9 (List.set ([] ++ a0) (Int.toNat (rd 0 a9 0)) ((rd (0, 0) ([] ++ a0) (rd 0 a9 0)).1, (W (0 - (rd (0, 0) ([] ++ a0) (rd 0 a9 0)).2))))).bind fun t0 =>
 some t0 else gd (0 < (ln a9)) <| gd (0 ≤ (rd 0 a9 0)) <| gd ((rd 0 a9 0) ≤ (ln ([] ++ a0))) <| gd (0 < (ln a9)) <| gd (0 ≤ (W ((rd 0 a9 0) + 1))) <| gd ((W ((rd 0 a9 0) + 1)) ≤ (ln ([] ++ a0))) <| gd (((lnN (List.take (Int.toNat (rd 0 a9 0)) ([] ++ a0))) + (lnN (List.take ((Int.toNat (ln ([] ++ a0))) - (Int.toNat (W ((rd 0 a9 0) + 1)))) (List.drop (Int.toNat (W ((rd 0 a9 0) + 1))) ([] ++ a0))))) ≤ 8796093022208) <| (qdpz.f k a0 a1 a2 a3 a4 a5 a6 a7 a8 a9 ((List.take (Int.toNat (rd 0 a9 0)) ([] ++ a0)) ++ (List.take ((Int.toNat (ln ([] ++ a0))) - (Int.toNat (W ((rd 0 a9 0) + 1)))) (List.drop (Int.toNat (W ((rd 0 a9 0) + 1))) ([] ++ a0))))).bind fun t0 =>
 some t0) r) : Ev (fun k => f k a0 a1 a2 a3 a4 a5 a6 a7 a8 a9 a10) r := evf (fun _ _ h => by rw [← qhxz.k (dl h)]; exact PI_at Cx (by kernel_rfl)) h
end qcaz
namespace qhkz
abbrev P := Int → Option Int
def f : P := fun a0 => (qgcz.f a0 (W (0 - a0))).bind fun t0 =>
 some t0
theorem k {K : Nat} (h : 2 ≤ K) : (fun a0 => PI Cx K 218 [vi a0] : P) = f := by
 obtain ⟨K, rfl⟩ := pos_of_le h
 funext a0
 unfold f
 rw [← qgcz.k (dk h)]
 exact PI_at Cx (by kernel_rfl)
end qhkz
namespace qhqz
def f (k : Fu) (a0 a1 : Int) : Option (Int × Int) := PI Cx (k 0) 219 [vi a0, vi a1]
def l0 (k : Fu) (x0 x1 x2 x3 : Int) : Option (Int × Int) := runAt Cx (k 0) 219 [tt, tt, tt, ff, tt] [k 1] ⟨[(0, vi x0), (1, vi x1), (6, vi x2), (7, vi x3)], [], []⟩
theorem v {a0 a1 : Int} {r} (h : Ev (fun k => if (iLt a1 0) then (qhkz.f (W (0 - a0))).bind fun t0 =>
 l0 k (W (0 - a0)) (W (0 - a1)) t0 (W (0 - a1)) else (qhkz.f a0).bind fun t0 =>
 l0 k a0 a1 t0 a1) r) : Ev (fun k => f k a0 a1) r := evf (fun _ _ h => by rw [← qhkz.k (dl h)]; exact PI_at Cx (by kernel_rfl)) h
theorem v0 {x0 x1 x2 x3 : Int} {r} (h : Ev (fun k => if (iGt x3 0) then if x3 = 0 then none else l0 k x0 x1 x3 (Int.tmod x2 x3) else if x2 = 0 then none else if x2 = 0 then none else some ((W (Int.tdiv x0 x2)), (W (Int.tdiv x1 x2)))) r) : Ev (fun k => l0 k x0 x1 x2 x3) r := evl [] 0 (fun _ _ _ => by kernel_rfl) h
end qhqz
namespace qgvz
def f (k : Fu) (a0 a1 a2 a3 : Int) : Option (Int × (Int × Bool)) := PI Cx (k 0) 215 [va [ci a0, ci a1], va [ci a2, ci a3]]
theorem v {a0 a1 a2 a3 : Int} {r} (h : Ev (fun k => if ((W (a2 - a0)) == 0) then some (0, (1, true)) else if ((W (a1 - a3)) == 0) then some (0, (0, false)) else if (!((iGt (W (a2 - a0)) 0) == (iGt (W (a1 - a3)) 0))) then some (0, (0, false)) else (qhqz.f k (W (a2 - a0)) (W (a1 - a3))).bind fun t0 =>
 some (t0.1, (t0.2, true))) r) : Ev (fun k => f k a0 a1 a2 a3) r := evf (fun _ _ _ => PI_at Cx (by kernel_rfl)) h
end qgvz
namespace qcsz
def f (k : Fu) (a0 a1 a2 a3 : Int) : Option (Int × (Int × Bool)) := PI Cx (k 0) 209 [va [ci a0, ci a1], va [ci a2, ci a3]]
theorem v {a0 a1 a2 a3 : Int} {r} (h : Ev (fun k => (qgqz.f a0 a1).bind fun t0 =>
 if (!t0) then some (0, (0, false)) else (qgqz.f a2 a3).bind fun t1 =>
 if (!t1) then some (0, (0, false)) else (qgvz.f k a0 a1 a2 a3).bind fun t2 =>
 some t2) r) : Ev (fun k => f k a0 a1 a2 a3) r := evf (fun _ _ h => by rw [← qgqz.k (dl h)]; exact PI_at Cx (by kernel_rfl)) h
end qcsz
namespace qgnz
def f (k : Fu) (a0 a1 : Int) (a2 : Bool) : Option BA := PI Cx (k 0) 159 [vi a0, vi a1, vb a2]
theorem v {a0 a1 : Int} {a2 : Bool} {r} (h : Ev (fun k => if (!a2) then some (bs [110, 111]) else (qhpz.f k a0).bind fun t0 =>
 gd (((ByteArray.size t0) + 1) ≤ maxLen) <| (qhpz.f k a1).bind fun t1 =>
 gd (((ByteArray.size (t0 ++ (bs [47]))) + (ByteArray.size t1)) ≤ maxLen) <| some ((t0 ++ (bs [47])) ++ t1)) r) : Ev (fun k => f k a0 a1 a2) r := evf (fun _ _ _ => PI_at Cx (by kernel_rfl)) h
end qgnz
namespace qccz
def f (k : Fu) (a0 a1 a2 a3 : Int) : Option (Int × (Int × Bool)) := PI Cx (k 0) 210 [va [ci a0, ci a1], va [ci a2, ci a3]]
theorem v {a0 a1 a2 a3 : Int} {r} (h : Ev (fun k => (qcsz.f k a0 a1 a2 a3).bind fun t0 =>
 if (!t0.2.2) then some (0, (0, false)) else (qhqz.f k (W ((W (a0 * t0.2.1)) + (W (a1 * t0.1)))) t0.2.1).bind fun t1 =>
 some (t1.1, (t1.2, true))) r) : Ev (fun k => f k a0 a1 a2 a3) r := evf (fun _ _ _ => PI_at Cx (by kernel_rfl)) h
end qccz
namespace qgzz
abbrev P := Int → Int → Int → Int → Int → Option Bool
def f : P := fun a0 a1 a2 a3 a4 => (qhxz.f a0 1 1000).bind fun t0 =>
 if t0 then (qgqz.f a1 a2).bind fun t1 =>
 if t1 then (qgqz.f a3 a4).bind fun t2 =>
 some t2 else some false else some false
theorem k {K : Nat} (h : 3 ≤ K) : (fun a0 a1 a2 a3 a4 => PI Cx K 257 [vi a0, va [ci a1, ci a2], va [ci a3, ci a4]] : P) = f := by
 obtain ⟨K, rfl⟩ := pos_of_le h
 funext a0 a1 a2 a3 a4
 unfold f
 rw [← qhxz.k (dk h), ← qgqz.k (dk h)]
 exact PI_at Cx (by kernel_rfl)
end qgzz
namespace qhuz
abbrev P := Int → Int → Option Int
def f : P := fun a0 a1 => if a1 = 0 then none else if a1 = 0 then none else some (Int.tmod (W ((Int.tmod a0 a1) + a1)) a1)
theorem k {K : Nat} (h : 1 ≤ K) : (fun a0 a1 => PI Cx K 259 [vi a0, vi a1] : P) = f := by
 obtain ⟨K, rfl⟩ := pos_of_le h
 funext a0 a1
 exact PI_at Cx (by kernel_rfl)
end qhuz
namespace qfrz
abbrev P := Int → Int → Int → Int → Int → Option (Int × Int)
def f : P := fun a0 a1 a2 a3 a4 => if (iLt a2 a4) then (qhuz.f (W (a1 - a3)) a0).bind fun t0 =>
 some (t0, (W (a4 - a2))) else (qhuz.f (W (a3 - a1)) a0).bind fun t0 =>
 some (t0, (W (a2 - a4)))
theorem k {K : Nat} (h : 2 ≤ K) : (fun a0 a1 a2 a3 a4 => PI Cx K 258 [vi a0, va [ci a1, ci a2], va [ci a3, ci a4]] : P) = f := by
 obtain ⟨K, rfl⟩ := pos_of_le h
 funext a0 a1 a2 a3 a4
 unfold f
 rw [← qhuz.k (dk h)]
 exact PI_at Cx (by kernel_rfl)
end qfrz
namespace qeoz
def f (k : Fu) (a0 a1 a2 a3 a4 : Int) : Option (Int × (Int × Bool)) := PI Cx (k 0) 211 [vi a0, va [ci a1, ci a2], va [ci a3, ci a4]]
theorem v {a0 a1 a2 a3 a4 : Int} {r} (h : Ev (fun k => (qgzz.f a0 a1 a2 a3 a4).bind fun t0 =>
 if (!t0) then some (0, (0, false)) else (qfrz.f a0 a1 a2 a3 a4).bind fun t1 =>
 if (t1.1 == 0) then some (0, (1, true)) else if (t1.2 == 0) then some (0, (0, false)) else (qhqz.f k t1.1 t1.2).bind fun t2 =>
 some (t2.1, (t2.2, true))) r) : Ev (fun k => f k a0 a1 a2 a3 a4) r := evf (fun _ _ h => by rw [← qgzz.k (dl h), ← qfrz.k (dl h)]; exact PI_at Cx (by kernel_rfl)) h
end qeoz
namespace qfpz
def f (k : Fu) (a0 a1 a2 a3 a4 : Int) : Option (Int × (Int × Bool)) := PI Cx (k 0) 212 [vi a0, va [ci a1, ci a2], va [ci a3, ci a4]]
theorem v {a0 a1 a2 a3 a4 : Int} {r} (h : Ev (fun k => (qgzz.f a0 a1 a2 a3 a4).bind fun t0 =>
 if (!t0) then some (0, (0, false)) else if (a2 == a4) then some (0, (0, false)) else (qfrz.f a0 a1 a2 a3 a4).bind fun t1 =>
 (qhqz.f k a0 t1.2).bind fun t2 =>
 some (t2.1, (t2.2, true))) r) : Ev (fun k => f k a0 a1 a2 a3 a4) r := evf (fun _ _ h => by rw [← qgzz.k (dl h), ← qfrz.k (dl h)]; exact PI_at Cx (by kernel_rfl)) h
end qfpz
namespace qhvz
def f (k : Fu) (a0 : List Int) (a1 : Int) : Option (List Int) := PI Cx (k 0) 260 [vl 3 i6 a0, vi a1]
def l0 (k : Fu) (x0 : List Int) (x1 x2 : Int) : Option (List Int) := runAt Cx (k 0) 260 [tt, tt, ff, tt] [k 1] ⟨[(0, vl 3 i6 x0), (1, vi x1), (5, vi x2)], [], []⟩
theorem v {a0 : List Int} {a1 : Int} {r} (h : Ev (fun k => l0 k a0 a1 0) r) : Ev (fun k => f k a0 a1) r := evf (fun _ _ _ => PI_at Cx (by kernel_rfl)) h
theorem v0 {x0 : List Int} {x1 x2 : Int} {r} (h : Ev (fun k => if (iLt x2 (ln x0)) then ix x2 x0 <| if (iLt (rd 0 x0 x2) x1) then l0 k x0 x1 (W (x2 + 1)) else if (iLt x2 (ln x0)) then ix x2 x0 <| if ((rd 0 x0 x2) == x1) then some x0 else gd (0 ≤ x2) <| gd (x2 ≤ (ln x0)) <| gd ((0 + (lnN (List.take (Int.toNat x2) x0))) ≤ 17592186044416) <| gd (((lnN ([] ++ (List.take (Int.toNat x2) x0))) + 1) ≤ 17592186044416) <| gd (0 ≤ x2) <| gd (x2 ≤ (ln x0)) <| gd (((lnN (([] ++ (List.take (Int.toNat x2) x0)) ++ [x1])) + (lnN (List.drop (Int.toNat x2) x0))) ≤ 17592186044416) <| some ((([] ++ (List.take (Int.toNat x2) x0)) ++ [x1]) ++ (List.drop (Int.toNat x2) x0)) else gd (0 ≤ x2) <| gd (x2 ≤ (ln x0)) <| gd ((0 + (lnN (List.take (Int.toNat x2) x0))) ≤ 17592186044416) <| gd (((lnN ([] ++ (List.take (Int.toNat x2) x0))) + 1) ≤ 17592186044416) <| gd (0 ≤ x2) <| gd (x2 ≤ (ln x0)) <| gd (((lnN (([] ++ (List.take (Int.toNat x2) x0)) ++ [x1])) + (lnN (List.drop (Int.toNat x2) x0))) ≤ 17592186044416) <| some ((([] ++ (List.take (Int.toNat x2) x0)) ++ [x1]) ++ (List.drop (Int.toNat x2) x0)) else if (iLt x2 (ln x0)) then ix x2 x0 <| if ((rd 0 x0 x2) == x1) then some x0 else gd (0 ≤ x2) <| gd (x2 ≤ (ln x0)) <| gd ((0 + (lnN (List.take (Int.toNat x2) x0))) ≤ 17592186044416) <| gd (((lnN ([] ++ (List.take (Int.toNat x2) x0))) + 1) ≤ 17592186044416) <| gd (0 ≤ x2) <| gd (x2 ≤ (ln x0)) <| gd (((lnN (([] ++ (List.take (Int.toNat x2) x0)) ++ [x1])) + (lnN (List.drop (Int.toNat x2) x0))) ≤ 17592186044416) <| some ((([] ++ (List.take (Int.toNat x2) x0)) ++ [x1]) ++ (List.drop (Int.toNat x2) x0)) else gd (0 ≤ x2) <| gd (x2 ≤ (ln x0)) <| gd ((0 + (lnN (List.take (Int.toNat x2) x0))) ≤ 17592186044416) <| gd (((lnN ([] ++ (List.take (Int.toNat x2) x0))) + 1) ≤ 17592186044416) <| gd (0 ≤ x2) <| gd (x2 ≤ (ln x0)) <| gd (((lnN (([] ++ (List.take (Int.toNat x2) x0)) ++ [x1])) + (lnN (List.drop (Int.toNat x2) x0))) ≤ 17592186044416) <| some ((([] ++ (List.take (Int.toNat x2) x0)) ++ [x1]) ++ (List.drop (Int.toNat x2) x0))) r) : Ev (fun k => l0 k x0 x1 x2) r := evl [] 0 (fun _ _ _ => by kernel_rfl) h
end qhvz
namespace qdkz
def f (k : Fu) (a0 a1 a2 a3 a4 : Int) : Option ((List (List Int)) × Bool) := PI Cx (k 0) 214 [vi a0, va [ci a1, ci a2], va [ci a3, ci a4]]
def l0 (k : Fu) (x0 x1 x2 : Int) (x3 : List Int) (x4 x5 x6 : Int) : Option ((List (List Int)) × Bool) := runAt Cx (k 0) 214 [tt, tt, tt, tt, ff, tt, tt] [k 1] ⟨[(0, vi x0), (4, vp 0 0), (8, vi x1), (9, vi x2), (10, vl 3 i6 x3), (11, vi x4)], [(0, .box 74 [ci x5, ci x6])], []⟩
def l1 (k : Fu) (x0 : Int) (x1 : List Int) (x2 x3 : Int) (x4 : List (List Int)) : Option ((List (List Int)) × Bool) := runAt Cx (k 0) 214 [tt, tt, tt, tt, tt, tt, ff, tt, tt] [k 2] ⟨[(9, vi x0), (13, vf 1000000013000), (62, vl 3 i6 x1), (63, vi x2), (64, vi x3)], [(1000000013000, .row 44 (.sl 3 i6) x4 .own)], []⟩
theorem v {a0 a1 a2 a3 a4 : Int} {r} (h : Ev (fun k => (qgzz.f a0 a1 a2 a3 a4).bind fun t0 =>
 if (!t0) then some ([], false) else if (a2 == a4) then some ([], false) else (qfrz.f a0 a1 a2 a3 a4).bind fun t1 =>
 l0 k a0 t1.1 t1.2 [] 0 a1 a2) r) : Ev (fun k => f k a0 a1 a2 a3 a4) r := evf (fun _ _ h => by rw [← qgzz.k (dl h), ← qfrz.k (dl h)]; exact PI_at Cx (by kernel_rfl)) h
theorem v0 {x0 x1 x2 : Int} {x3 : List Int} {x4 x5 x6 : Int} {r} (h : Ev (fun k => if (iLt x4 x2) then (qhuz.f (W ((W (x5 * x2)) + (W (x6 * (W (x1 + (W (x4 * x0)))))))) (W (x0 * x2))).bind fun t0 =>
 (qhvz.f k x3 t0).bind fun t1 =>
 l0 k x0 x1 x2 t1 (W (x4 + 1)) x5 x6 else l1 k x2 x3 (ln x3) 0 []) r) : Ev (fun k => l0 k x0 x1 x2 x3 x4 x5 x6) r := evl [] 0 (fun _ _ h => by rw [← qhuz.k (dl h)]; kernel_rfl) h
theorem v1 {x0 : Int} {x1 : List Int} {x2 x3 : Int} {x4 : List (List Int)} {r} (h : Ev (fun k => if (iLt x3 x2) then ix x3 x1 <| (qhqz.f k (rd 0 x1 x3) x0).bind fun t0 =>
 gd (((lnN x4) + 1) ≤ 5864062014805) <| l1 k x0 x1 x2 (W (x3 + 1)) (x4 ++ [[t0.1, t0.2]]) else some (x4, true)) r) : Ev (fun k => l1 k x0 x1 x2 x3 x4) r := evl [] 1 (fun _ _ _ => by kernel_rfl) h
end qdkz
namespace qfuz
def f (k : Fu) (a0 : List (List Int)) (a1 : Bool) : Option BA := PI Cx (k 0) 213 [vl 44 (.sl 3 i6) a0, vb a1]
def l0 (k : Fu) (x0 : BA) (x1 : List (List Int)) (x2 x3 : Int) : Option BA := runAt Cx (k 0) 213 [tt, tt, tt, ff, tt, tt] [k 1] ⟨[(5, vs x0), (10, vl 44 (.sl 3 i6) x1), (11, vi x2), (12, vi x3)], [], []⟩
theorem v {a0 : List (List Int)} {a1 : Bool} {r} (h : Ev (fun k => if (!a1) then some (bs [110, 111]) else l0 k (bs []) a0 (ln a0) 0) r) : Ev (fun k => f k a0 a1) r := evf (fun _ _ _ => PI_at Cx (by kernel_rfl)) h
theorem v0 {x0 : BA} {x1 : List (List Int)} {x2 x3 : Int} {r} (h : Ev (fun k => if (iLt x3 x2) then ix x3 x1 <| if (iGt x3 0) then gd (((ByteArray.size x0) + 1) ≤ maxLen) <| gd (0 < (ln (rd [] x1 x3))) <| gd (1 < (ln (rd [] x1 x3))) <| (qgnz.f k (rd 0 (rd [] x1 x3) 0) (rd 0 (rd [] x1 x3) 1) true).bind fun t0 =>
 gd (((ByteArray.size (x0 ++ (bs [44]))) + (ByteArray.size t0)) ≤ maxLen) <| l0 k ((x0 ++ (bs [44])) ++ t0) x1 x2 (W (x3 + 1)) else gd (0 < (ln (rd [] x1 x3))) <| gd (1 < (ln (rd [] x1 x3))) <| (qgnz.f k (rd 0 (rd [] x1 x3) 0) (rd 0 (rd [] x1 x3) 1) true).bind fun t0 =>
 gd (((ByteArray.size x0) + (ByteArray.size t0)) ≤ maxLen) <| l0 k (x0 ++ t0) x1 x2 (W (x3 + 1)) else some x0) r) : Ev (fun k => l0 k x0 x1 x2 x3) r := evl [] 0 (fun _ _ _ => by kernel_rfl) h
end qfuz
namespace qdcz
def f (k : Fu) (a0 : List (Int × Int)) (a1 : Int) (a2 : List (Int × Int)) (a3 a4 a5 a6 : Int) (a7 a8 : List (Int × Int)) (a9 : List Int) (a10 : BA) : Option (BA × ((List (Int × Int)) × (Int × ((List (Int × Int)) × (Int × (Int × (Int × (Int × ((List (Int × Int)) × ((List (Int × Int)) × (List Int))))))))))) := PI Cx (k 0) 151 [va [.sl 74 (.pair i6 i6) a0, ci a1, .sl 74 (.pair i6 i6) a2, ci a3, ci a4, ci a5, ci a6, .sl 88 (.pair i6 i6) a7, .sl 155 (.pair i6 i6) a8, .sl 3 i6 a9], vs a10]
theorem v {a0 : List (Int × Int)} {a1 : Int} {a2 : List (Int × Int)} {a3 a4 a5 a6 : Int} {a7 a8 : List (Int × Int)} {a9 : List Int} {a10 : BA} {r} (h : Ev (fun k => gd (0 < (ln a9)) <| if (iGe (rd 0 a9 0) (ln a0)) then some ((bs [110, 111]), (a0, (a1, (a2, (a3, (a4, (a5, (a6, (a7, (a8, a9)))))))))) else gd (1 < (ln a9)) <| if (iGe (rd 0 a9 1) (ln a0)) then some ((bs [110, 111]), (a0, (a1, (a2, (a3, (a4, (a5, (a6, (a7, (a8, a9)))))))))) else gd (0 < (ln a9)) <| ix (rd 0 a9 0) a0 <| gd (1 < (ln a9)) <| ix (rd 0 a9 1) a0 <| if (seq a10 (bs [109, 101, 101, 116])) then (qcsz.f k (rd (0, 0) a0 (rd 0 a9 0)).1 (rd (0, 0) a0 (rd 0 a9 0)).2 (rd (0, 0) a0 (rd 0 a9 1)).1 (rd (0, 0) a0 (rd 0 a9 1)).2).bind fun t0 =>
 (qgnz.f k t0.1 t0.2.1 t0.2.2).bind fun t1 =>
 some (t1, (a0, (a1, (a2, (a3, (a4, (a5, (a6, (a7, (a8, a9)))))))))) else if (seq a10 (bs [119, 104, 101, 114, 101])) then (qccz.f k (rd (0, 0) a0 (rd 0 a9 0)).1 (rd (0, 0) a0 (rd 0 a9 0)).2 (rd (0, 0) a0 (rd 0 a9 1)).1 (rd (0, 0) a0 (rd 0 a9 1)).2).bind fun t0 =>
 (qgnz.f k t0.1 t0.2.1 t0.2.2).bind fun t1 =>
 some (t1, (a0, (a1, (a2, (a3, (a4, (a5, (a6, (a7, (a8, a9)))))))))) else if (seq a10 (bs [97, 114, 111, 117, 110, 100])) then (qeoz.f k a1 (rd (0, 0) a0 (rd 0 a9 0)).1 (rd (0, 0) a0 (rd 0 a9 0)).2 (rd (0, 0) a0 (rd 0 a9 1)).1 (rd (0, 0) a0 (rd 0 a9 1)).2).bind fun t0 =>
 (qgnz.f k t0.1 t0.2.1 t0.2.2).bind fun t1 =>
 some (t1, (a0, (a1, (a2, (a3, (a4, (a5, (a6, (a7, (a8, a9)))))))))) else if (seq a10 (bs [103, 97, 112])) then (qfpz.f k a1 (rd (0, 0) a0 (rd 0 a9 0)).1 (rd (0, 0) a0 (rd 0 a9 0)).2 (rd (0, 0) a0 (rd 0 a9 1)).1 (rd (0, 0) a0 (rd 0 a9 1)).2).bind fun t0 =>
 (qgnz.f k t0.1 t0.2.1 t0.2.2).bind fun t1 =>
 some (t1, (a0, (a1, (a2, (a3, (a4, (a5, (a6, (a7, (a8, a9)))))))))) else (qdkz.f k a1 (rd (0, 0) a0 (rd 0 a9 0)).1 (rd (0, 0) a0 (rd 0 a9 0)).2 (rd (0, 0) a0 (rd 0 a9 1)).1 (rd (0, 0) a0 (rd 0 a9 1)).2).bind fun t0 =>
 (qfuz.f k t0.1 t0.2).bind fun t1 =>
 some (t1, (a0, (a1, (a2, (a3, (a4, (a5, (a6, (a7, (a8, a9))))))))))) r) : Ev (fun k => f k a0 a1 a2 a3 a4 a5 a6 a7 a8 a9 a10) r := evf (fun _ _ _ => PI_at Cx (by kernel_rfl)) h
end qdcz
namespace qcwz
def f (k : Fu) (a0 : List (Int × Int)) : Option ((List (List Int)) × Bool) := PI Cx (k 0) 154 [vl 74 (.pair i6 i6) a0]
def l0 (k : Fu) (x0 x1 : List (Int × Int)) (x2 x3 : Int) (x4 : List (List Int)) : Option ((List (List Int)) × Bool) := runAt Cx (k 0) 154 [tt, tt, tt, ff, tt, tt] [k 1] ⟨[(0, vl 74 (.pair i6 i6) x0), (4, vf 1000000004000), (16, vl 74 (.pair i6 i6) x1), (17, vi x2), (18, vi x3)], [(1000000004000, .row 44 (.sl 3 i6) x4 .own)], []⟩
def l1 (k : Fu) (x0 : List (Int × Int)) (x1 x2 : Int) (x3 : List (Int × Int)) (x4 x5 : Int) (x6 : List (List Int)) (x7 x8 : Int) : Option ((List (List Int)) × Bool) := runAt Cx (k 0) 154 [tt, tt, tt, ff, tt, tt, tt, tt, tt, ff, tt, tt, tt, tt] [k 1, k 2] ⟨[(0, vl 74 (.pair i6 i6) x0), (4, vf 1000000004000), (5, vi x1), (6, vp 6003000 0), (7, vi x2), (16, vl 74 (.pair i6 i6) x3), (17, vi x4), (18, vi x5)], [(1000000004000, .row 44 (.sl 3 i6) x6 .own), (6003000, .box 74 [ci x7, ci x8])], []⟩
def l2 (k : Fu) (x0 : List (Int × Int)) (x1 x2 x3 x4 x5 : Int) (x6 : List (Int × Int)) (x7 x8 : Int) (x9 : List (List Int)) (x10 x11 : Int) : Option ((List (List Int)) × Bool) := runAt Cx (k 0) 154 [tt, tt, tt, ff, tt, tt, tt, tt, tt, ff, tt, tt, tt, tt, tt, tt, ff, tt, tt, tt, tt, ff, tt] [k 1, k 2, k 3] ⟨[(0, vl 74 (.pair i6 i6) x0), (4, vf 1000000004000), (5, vi x1), (6, vp 6003000 0), (7, vi x2), (8, vi x3), (9, vi x4), (11, vi x5), (16, vl 74 (.pair i6 i6) x6), (17, vi x7), (18, vi x8)], [(1000000004000, .row 44 (.sl 3 i6) x9 .own), (6003000, .box 74 [ci x10, ci x11])], []⟩
theorem v {a0 : List (Int × Int)} {r} (h : Ev (fun k => (qhrz.f k a0).bind fun t0 =>
 if (!t0) then some ([], false) else l0 k a0 a0 (ln a0) 0 []) r) : Ev (fun k => f k a0) r := evf (fun _ _ _ => PI_at Cx (by kernel_rfl)) h
theorem v0 {x0 x1 : List (Int × Int)} {x2 x3 : Int} {x4 : List (List Int)} {r} (h : Ev (fun k => if (iLt x3 x2) then ix x3 x1 <| l1 k x0 x3 (W (x3 + 1)) x1 x2 x3 x4 (rd (0, 0) x1 x3).1 (rd (0, 0) x1 x3).2 else some (x4, true)) r) : Ev (fun k => l0 k x0 x1 x2 x3 x4) r := evl [] 0 (fun _ _ _ => by kernel_rfl) h
theorem v1 {x0 : List (Int × Int)} {x1 x2 : Int} {x3 : List (Int × Int)} {x4 x5 : Int} {x6 : List (List Int)} {x7 x8 : Int} {r} (h : Ev (fun k => if (iLt x2 (ln x0)) then ix x2 x0 <| (qgvz.f k x7 x8 (rd (0, 0) x0 x2).1 (rd (0, 0) x0 x2).2).bind fun t0 =>
 if (!t0.2.2) then l1 k x0 x1 (W (x2 + 1)) x3 x4 x5 x6 x7 x8 else l2 k x0 x1 x2 t0.1 t0.2.1 (ln x6) x3 x4 x5 x6 x7 x8 else l0 k x0 x3 x4 (W (x5 + 1)) x6) r) : Ev (fun k => l1 k x0 x1 x2 x3 x4 x5 x6 x7 x8) r := evl [1] 1 (fun _ _ _ => by kernel_rfl) h
theorem v2 {x0 : List (Int × Int)} {x1 x2 x3 x4 x5 : Int} {x6 : List (Int × Int)} {x7 x8 : Int} {x9 : List (List Int)} {x10 x11 : Int} {r} (h : Ev (fun k => if (iGt x5 0) then ix (W (x5 - 1)) x9 <| gd (3 < (ln (rd [] x9 (W (x5 - 1))))) <| ix (W (x5 - 1)) x9 <| gd (2 < (ln (rd [] x9 (W (x5 - 1))))) <| if (iLt (W (x3 * (rd 0 (rd [] x9 (W (x5 - 1))) 3))) (W ((rd 0 (rd [] x9 (W (x5 - 1))) 2) * x4))) then l2 k x0 x1 x2 x3 x4 (W (x5 - 1)) x6 x7 x8 x9 x10 x11 else gd (0 ≤ x5) <| gd (x5 ≤ (ln x9)) <| gd ((0 + (lnN (List.take (Int.toNat x5) x9))) ≤ 5864062014805) <| gd (((lnN ([] ++ (List.take (Int.toNat x5) x9))) + 1) ≤ 5864062014805) <| gd (0 ≤ x5) <| gd (x5 ≤ (ln x9)) <| gd (((lnN (([] ++ (List.take (Int.toNat x5) x9)) ++ [[x1, x2, x3, x4]])) + (lnN (List.take ((Int.toNat (ln x9)) - (Int.toNat x5)) (List.drop (Int.toNat x5) x9)))) ≤ 5864062014805) <| l1 k x0 x1 (W (x2 + 1)) x6 x7 x8 ((([] ++ (List.take (Int.toNat x5) x9)) ++ [[x1, x2, x3, x4]]) ++ (List.take ((Int.toNat (ln x9)) - (Int.toNat x5)) (List.drop (Int.toNat x5) x9))) x10 x11 else gd (0 ≤ x5) <| gd (x5 ≤ (ln x9)) <| gd ((0 + (lnN (List.take (Int.toNat x5) x9))) ≤ 5864062014805) <| gd (((lnN ([] ++ (List.take (Int.toNat x5) x9))) + 1) ≤ 5864062014805) <| gd (0 ≤ x5) <| gd (x5 ≤ (ln x9)) <| gd (((lnN (([] ++ (List.take (Int.toNat x5) x9)) ++ [[x1, x2, x3, x4]])) + (lnN (List.take ((Int.toNat (ln x9)) - (Int.toNat x5)) (List.drop (Int.toNat x5) x9)))) ≤ 5864062014805) <| l1 k x0 x1 (W (x2 + 1)) x6 x7 x8 ((([] ++ (List.take (Int.toNat x5) x9)) ++ [[x1, x2, x3, x4]]) ++ (List.take ((Int.toNat (ln x9)) - (Int.toNat x5)) (List.drop (Int.toNat x5) x9))) x10 x11) r) : Ev (fun k => l2 k x0 x1 x2 x3 x4 x5 x6 x7 x8 x9 x10 x11) r := evl [1, 2] 2 (fun _ _ _ => by kernel_rfl) h
end qcwz
namespace qbtz
def f (k : Fu) (a0 : List (Int × Int)) : Option (Int × Bool) := PI Cx (k 0) 153 [vl 74 (.pair i6 i6) a0]
theorem v {a0 : List (Int × Int)} {r} (h : Ev (fun k => (qcwz.f k a0).bind fun t0 =>
 some ((ln t0.1), t0.2)) r) : Ev (fun k => f k a0) r := evf (fun _ _ _ => PI_at Cx (by kernel_rfl)) h
end qbtz
namespace qesz
def f (k : Fu) (a0 : Int) (a1 : Bool) : Option BA := PI Cx (k 0) 152 [vi a0, vb a1]
theorem v {a0 : Int} {a1 : Bool} {r} (h : Ev (fun k => if (!a1) then some (bs [110, 111]) else (qhoz.f k a0).bind fun t0 =>
 some t0) r) : Ev (fun k => f k a0 a1) r := evf (fun _ _ _ => PI_at Cx (by kernel_rfl)) h
end qesz
namespace qgkz
def f (k : Fu) (a0 : List Int) (a1 : Bool) : Option BA := PI Cx (k 0) 155 [vl 3 i6 a0, vb a1]
def l0 (k : Fu) (x0 : BA) (x1 : List Int) (x2 x3 : Int) : Option BA := runAt Cx (k 0) 155 [tt, tt, tt, tt, ff, tt, tt] [k 1] ⟨[(5, vs x0), (13, vl 3 i6 x1), (14, vi x2), (15, vi x3)], [], []⟩
theorem v {a0 : List Int} {a1 : Bool} {r} (h : Ev (fun k => if (!a1) then some (bs [110, 111]) else if ((ln a0) == 0) then some (bs [45]) else l0 k (bs []) a0 (ln a0) 0) r) : Ev (fun k => f k a0 a1) r := evf (fun _ _ _ => PI_at Cx (by kernel_rfl)) h
theorem v0 {x0 : BA} {x1 : List Int} {x2 x3 : Int} {r} (h : Ev (fun k => if (iLt x3 x2) then ix x3 x1 <| if (iGt x3 0) then gd (((ByteArray.size x0) + 1) ≤ maxLen) <| (qhpz.f k (rd 0 x1 x3)).bind fun t0 =>
 gd (((ByteArray.size (x0 ++ (bs [44]))) + (ByteArray.size t0)) ≤ maxLen) <| l0 k ((x0 ++ (bs [44])) ++ t0) x1 x2 (W (x3 + 1)) else (qhpz.f k (rd 0 x1 x3)).bind fun t0 =>
 gd (((ByteArray.size x0) + (ByteArray.size t0)) ≤ maxLen) <| l0 k (x0 ++ t0) x1 x2 (W (x3 + 1)) else some x0) r) : Ev (fun k => l0 k x0 x1 x2 x3) r := evl [] 0 (fun _ _ _ => by kernel_rfl) h
end qgkz
namespace qdwz
def f (k : Fu) (a0 : List (Int × Int)) : Option ((List Int) × Bool) := PI Cx (k 0) 156 [vl 74 (.pair i6 i6) a0]
def l0 (k : Fu) (x0 : List (Int × Int)) (x1 : Int) (x2 : List (Int × Int)) (x3 x4 : Int) : Option ((List Int) × Bool) := runAt Cx (k 0) 156 [tt, tt, tt, ff, tt, tt] [k 1] ⟨[(0, vl 74 (.pair i6 i6) x0), (4, vi x1), (22, vl 74 (.pair i6 i6) x2), (23, vi x3), (24, vi x4)], [], []⟩
def l1 (k : Fu) (x0 : List (Int × Int)) (x1 x2 x3 x4 : Int) (x5 : List Int) : Option ((List Int) × Bool) := runAt Cx (k 0) 156 [tt, tt, tt, tt, tt, tt, ff, tt, tt] [k 2] ⟨[(0, vl 74 (.pair i6 i6) x0), (4, vi x1), (7, vf 1000000007000), (8, vi x2), (9, vi x3), (10, vi x4)], [(1000000007000, .row 3 i6 x5 .own)], []⟩
def l2 (k : Fu) (x0 : List (Int × Int)) (x1 x2 x3 x4 x5 x6 x7 : Int) (x8 : List (Int × Int)) (x9 x10 : Int) (x11 : List Int) : Option ((List Int) × Bool) := runAt Cx (k 0) 156 [tt, tt, tt, tt, tt, tt, ff, tt, tt, tt, tt, ff, tt, tt, ff, tt, tt] [k 2, k 3] ⟨[(0, vl 74 (.pair i6 i6) x0), (4, vi x1), (7, vf 1000000007000), (8, vi x2), (9, vi x3), (10, vi x4), (11, vi x5), (12, vi x6), (13, vi x7), (68, vl 74 (.pair i6 i6) x8), (69, vi x9), (70, vi x10)], [(1000000007000, .row 3 i6 x11 .own)], []⟩
theorem v {a0 : List (Int × Int)} {r} (h : Ev (fun k => (qhrz.f k a0).bind fun t0 =>
 if (!t0) then some ([], false) else l0 k a0 0 a0 (ln a0) 0) r) : Ev (fun k => f k a0) r := evf (fun _ _ _ => PI_at Cx (by kernel_rfl)) h
theorem v0 {x0 : List (Int × Int)} {x1 : Int} {x2 : List (Int × Int)} {x3 x4 : Int} {r} (h : Ev (fun k => if (iLt x4 x3) then ix x4 x2 <| ix x1 x0 <| if (iGt (rd (0, 0) x2 x4).1 (rd (0, 0) x0 x1).1) then l0 k x0 x4 x2 x3 (W (x4 + 1)) else ix x1 x0 <| if ((rd (0, 0) x2 x4).1 == (rd (0, 0) x0 x1).1) then ix x1 x0 <| if (iGt (rd (0, 0) x2 x4).2 (rd (0, 0) x0 x1).2) then l0 k x0 x4 x2 x3 (W (x4 + 1)) else l0 k x0 x1 x2 x3 (W (x4 + 1)) else l0 k x0 x1 x2 x3 (W (x4 + 1)) else l1 k x0 x1 0 1 0 [x1]) r) : Ev (fun k => l0 k x0 x1 x2 x3 x4) r := evl [] 0 (fun _ _ _ => by kernel_rfl) h
theorem v1 {x0 : List (Int × Int)} {x1 x2 x3 x4 : Int} {x5 : List Int} {r} (h : Ev (fun k => if (iLt x4 (W (2 * (ln x0)))) then l2 k x0 x1 x2 x3 x4 (-1) 0 1 x0 (ln x0) 0 x5 else some (x5, true)) r) : Ev (fun k => l1 k x0 x1 x2 x3 x4 x5) r := evl [] 1 (fun _ _ _ => by kernel_rfl) h
theorem v2 {x0 : List (Int × Int)} {x1 x2 x3 x4 x5 x6 x7 : Int} {x8 : List (Int × Int)} {x9 x10 : Int} {x11 : List Int} {r} (h : Ev (fun k => if (iLt x10 x9) then ix x10 x8 <| ix x1 x0 <| (qgvz.f k (rd (0, 0) x0 x1).1 (rd (0, 0) x0 x1).2 (rd (0, 0) x8 x10).1 (rd (0, 0) x8 x10).2).bind fun t0 =>
 ix x1 x0 <| if (iLe (rd (0, 0) x8 x10).2 (rd (0, 0) x0 x1).2) then l2 k x0 x1 x2 x3 x4 x5 x6 x7 x8 x9 (W (x10 + 1)) x11 else if (!t0.2.2) then l2 k x0 x1 x2 x3 x4 x5 x6 x7 x8 x9 (W (x10 + 1)) x11 else if (iLt (W (t0.1 * x3)) (W (x2 * t0.2.1))) then l2 k x0 x1 x2 x3 x4 x5 x6 x7 x8 x9 (W (x10 + 1)) x11 else if (iLt x5 0) then l2 k x0 x1 x2 x3 x4 x10 t0.1 t0.2.1 x8 x9 (W (x10 + 1)) x11 else if (iLt (W (t0.1 * x7)) (W (x6 * t0.2.1))) then l2 k x0 x1 x2 x3 x4 x10 t0.1 t0.2.1 x8 x9 (W (x10 + 1)) x11 else if ((W (t0.1 * x7)) == (W (x6 * t0.2.1))) then ix x5 x0 <| if (iGt (rd (0, 0) x8 x10).2 (rd (0, 0) x0 x5).2) then l2 k x0 x1 x2 x3 x4 x10 t0.1 t0.2.1 x8 x9 (W (x10 + 1)) x11 else l2 k x0 x1 x2 x3 x4 x5 x6 x7 x8 x9 (W (x10 + 1)) x11 else l2 k x0 x1 x2 x3 x4 x5 x6 x7 x8 x9 (W (x10 + 1)) x11 else if (iLt x5 0) then some (x11, true) else gd (((lnN x11) + 1) ≤ 17592186044416) <| l1 k x0 x5 x6 x7 (W (x4 + 1)) (x11 ++ [x5])) r) : Ev (fun k => l2 k x0 x1 x2 x3 x4 x5 x6 x7 x8 x9 x10 x11) r := evl [2] 2 (fun _ _ _ => by kernel_rfl) h
end qdwz
namespace qeqz
def f (k : Fu) (a0 a1 : List Int) : Option Bool := PI Cx (k 0) 261 [vl 3 i6 a0, vl 3 i6 a1]
def l0 (k : Fu) (x0 x1 : List Int) (x2 x3 : Int) : Option Bool := runAt Cx (k 0) 261 [tt, ff, tt, tt] [k 1] ⟨[(0, vl 3 i6 x0), (1, vl 3 i6 x1), (7, vi x2), (8, vi x3)], [], []⟩
theorem v {a0 a1 : List Int} {r} (h : Ev (fun k => l0 k a0 a1 (ln a0) 0) r) : Ev (fun k => f k a0 a1) r := evf (fun _ _ _ => PI_at Cx (by kernel_rfl)) h
theorem v0 {x0 x1 : List Int} {x2 x3 : Int} {r} (h : Ev (fun k => if (iLt x3 x2) then ix x3 x0 <| ix x3 x1 <| if ((rd 0 x0 x3) != (rd 0 x1 x3)) then ix x3 x0 <| ix x3 x1 <| some (iLt (rd 0 x0 x3) (rd 0 x1 x3)) else l0 k x0 x1 x2 (W (x3 + 1)) else some false) r) : Ev (fun k => l0 k x0 x1 x2 x3) r := evl [] 0 (fun _ _ _ => by kernel_rfl) h
end qeqz
namespace qhmz
abbrev P := List Int → Option (List Int)
def f : P := fun a0 => gd ((0 + (lnN a0)) ≤ 17592186044416) <| some ([] ++ a0)
theorem k {K : Nat} (h : 1 ≤ K) : (fun a0 => PI Cx K 262 [vl 3 i6 a0] : P) = f := by
 obtain ⟨K, rfl⟩ := pos_of_le h
 funext a0
 exact PI_at Cx (by kernel_rfl)
end qhmz
namespace qfwz
def f (k : Fu) (a0 : List (List Int)) : Option (List Int) := PI Cx (k 0) 216 [vl 44 (.sl 3 i6) a0]
def l0 (k : Fu) (x0 x1 : List (List Int)) (x2 x3 : Int) (x4 : List Int) : Option (List Int) := runAt Cx (k 0) 216 [tt, tt, ff, tt, tt] [k 1] ⟨[(0, vl 44 (.sl 3 i6) x0), (3, vf 1000000003000), (8, vl 44 (.sl 3 i6) x1), (9, vi x2), (10, vi x3)], [(1000000003000, .row 3 i6 x4 .own)], []⟩
def l1 (k : Fu) (x0 : List (List Int)) (x1 : Int) (x2 : List Int) (x3 : Int) (x4 : List (List Int)) (x5 x6 : Int) (x7 : List Int) : Option (List Int) := runAt Cx (k 0) 216 [tt, tt, ff, tt, tt, tt, tt, tt, ff, tt, tt, tt, ff, tt] [k 1, k 2] ⟨[(0, vl 44 (.sl 3 i6) x0), (3, vf 1000000003000), (4, vi x1), (5, vl 3 i6 x2), (6, vi x3), (8, vl 44 (.sl 3 i6) x4), (9, vi x5), (10, vi x6)], [(1000000003000, .row 3 i6 x7 .own)], []⟩
theorem v {a0 : List (List Int)} {r} (h : Ev (fun k => l0 k a0 a0 (ln a0) 0 []) r) : Ev (fun k => f k a0) r := evf (fun _ _ _ => PI_at Cx (by kernel_rfl)) h
theorem v0 {x0 x1 : List (List Int)} {x2 x3 : Int} {x4 : List Int} {r} (h : Ev (fun k => if (iLt x3 x2) then ix x3 x1 <| l1 k x0 x3 (rd [] x1 x3) (ln x4) x1 x2 x3 x4 else some x4) r) : Ev (fun k => l0 k x0 x1 x2 x3 x4) r := evl [] 0 (fun _ _ _ => by kernel_rfl) h
theorem v1 {x0 : List (List Int)} {x1 : Int} {x2 : List Int} {x3 : Int} {x4 : List (List Int)} {x5 x6 : Int} {x7 : List Int} {r} (h : Ev (fun k => if (iGt x3 0) then ix (W (x3 - 1)) x7 <| ix (rd 0 x7 (W (x3 - 1))) x0 <| (qeqz.f k x2 (rd [] x0 (rd 0 x7 (W (x3 - 1))))).bind fun t0 =>
 if t0 then l1 k x0 x1 x2 (W (x3 - 1)) x4 x5 x6 x7 else gd (0 ≤ x3) <| gd (x3 ≤ (ln x7)) <| (qhmz.f (List.take (Int.toNat x3) x7)).bind fun t1 =>
 gd (((lnN t1) + 1) ≤ 17592186044416) <| gd (0 ≤ x3) <| gd (x3 ≤ (ln x7)) <| gd (((lnN (t1 ++ [x1])) + (lnN (List.take ((Int.toNat (ln x7)) - (Int.toNat x3)) (List.drop (Int.toNat x3) x7)))) ≤ 17592186044416) <| l0 k x0 x4 x5 (W (x6 + 1)) ((t1 ++ [x1]) ++ (List.take ((Int.toNat (ln x7)) - (Int.toNat x3)) (List.drop (Int.toNat x3) x7))) else gd (0 ≤ x3) <| gd (x3 ≤ (ln x7)) <| (qhmz.f (List.take (Int.toNat x3) x7)).bind fun t0 =>
 gd (((lnN t0) + 1) ≤ 17592186044416) <| gd (0 ≤ x3) <| gd (x3 ≤ (ln x7)) <| gd (((lnN (t0 ++ [x1])) + (lnN (List.take ((Int.toNat (ln x7)) - (Int.toNat x3)) (List.drop (Int.toNat x3) x7)))) ≤ 17592186044416) <| l0 k x0 x4 x5 (W (x6 + 1)) ((t0 ++ [x1]) ++ (List.take ((Int.toNat (ln x7)) - (Int.toNat x3)) (List.drop (Int.toNat x3) x7)))) r) : Ev (fun k => l1 k x0 x1 x2 x3 x4 x5 x6 x7) r := evl [1] 1 (fun _ _ h => by rw [← qhmz.k (dl h)]; kernel_rfl) h
end qfwz
namespace qeaz
def f (k : Fu) (a0 : List (Int × Int)) : Option ((List Int) × Bool) := PI Cx (k 0) 157 [vl 74 (.pair i6 i6) a0]
def l0 (k : Fu) (x0 : List (Int × Int)) (x1 x2 : Int) (x3 : List (List Int)) : Option ((List Int) × Bool) := runAt Cx (k 0) 157 [tt, tt, tt, ff, tt, tt] [k 1] ⟨[(4, vf 1000000004000), (10, vl 74 (.pair i6 i6) x0), (11, vi x1), (12, vi x2)], [(1000000004000, .row 44 (.sl 3 i6) x3 .own)], []⟩
theorem v {a0 : List (Int × Int)} {r} (h : Ev (fun k => (qhrz.f k a0).bind fun t0 =>
 if (!t0) then some ([], false) else l0 k a0 (ln a0) 0 []) r) : Ev (fun k => f k a0) r := evf (fun _ _ _ => PI_at Cx (by kernel_rfl)) h
theorem v0 {x0 : List (Int × Int)} {x1 x2 : Int} {x3 : List (List Int)} {r} (h : Ev (fun k => if (iLt x2 x1) then ix x2 x0 <| gd (((lnN x3) + 1) ≤ 5864062014805) <| l0 k x0 x1 (W (x2 + 1)) (x3 ++ [[(rd (0, 0) x0 x2).2, (rd (0, 0) x0 x2).1]]) else (qfwz.f k x3).bind fun t0 =>
 some (t0, true)) r) : Ev (fun k => l0 k x0 x1 x2 x3) r := evl [] 0 (fun _ _ _ => by kernel_rfl) h
end qeaz
namespace qgrz
abbrev P := Int → Int → Option Bool
def f : P := fun a0 a1 => (qhxz.f a0 0 1000000).bind fun t0 =>
 if t0 then (qhxz.f a1 1 1000).bind fun t1 =>
 some t1 else some false
theorem k {K : Nat} (h : 2 ≤ K) : (fun a0 a1 => PI Cx K 217 [vi a0, vi a1] : P) = f := by
 obtain ⟨K, rfl⟩ := pos_of_le h
 funext a0 a1
 unfold f
 rw [← qhxz.k (dk h)]
 exact PI_at Cx (by kernel_rfl)
end qgrz
namespace qehz
def f (k : Fu) (a0 : List (Int × Int)) (a1 a2 : Int) : Option ((List Int) × Bool) := PI Cx (k 0) 158 [vl 74 (.pair i6 i6) a0, vi a1, vi a2]
def l0 (k : Fu) (x0 x1 : Int) (x2 : List (Int × Int)) (x3 x4 : Int) (x5 : List (List Int)) : Option ((List Int) × Bool) := runAt Cx (k 0) 158 [tt, tt, tt, ff, tt, tt] [k 1] ⟨[(1, vi x0), (2, vi x1), (8, vf 1000000008000), (20, vl 74 (.pair i6 i6) x2), (21, vi x3), (22, vi x4)], [(1000000008000, .row 44 (.sl 3 i6) x5 .own)], []⟩
theorem v {a0 : List (Int × Int)} {a1 a2 : Int} {r} (h : Ev (fun k => (qhrz.f k a0).bind fun t0 =>
 if (!t0) then some ([], false) else (qgrz.f a1 a2).bind fun t1 =>
 if (!t1) then some ([], false) else l0 k a1 a2 a0 (ln a0) 0 []) r) : Ev (fun k => f k a0 a1 a2) r := evf (fun _ _ h => by rw [← qgrz.k (dl h)]; exact PI_at Cx (by kernel_rfl)) h
theorem v0 {x0 x1 : Int} {x2 : List (Int × Int)} {x3 x4 : Int} {x5 : List (List Int)} {r} (h : Ev (fun k => if (iLt x4 x3) then ix x4 x2 <| gd (((lnN x5) + 1) ≤ 5864062014805) <| l0 k x0 x1 x2 x3 (W (x4 + 1)) (x5 ++ [[(W ((W ((rd (0, 0) x2 x4).1 * x1)) + (W ((rd (0, 0) x2 x4).2 * x0))))]]) else (qfwz.f k x5).bind fun t0 =>
 some (t0, true)) r) : Ev (fun k => l0 k x0 x1 x2 x3 x4 x5) r := evl [] 0 (fun _ _ _ => by kernel_rfl) h
end qehz
end
end Go.Proofs.YtdhkgmhdengnkaaGreatDoor.Dl
