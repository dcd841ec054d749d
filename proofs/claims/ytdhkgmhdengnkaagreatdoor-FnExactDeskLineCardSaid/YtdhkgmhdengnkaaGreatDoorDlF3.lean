/- What functions of the program compute. -/
import Derived.Test.YtdhkgmhdengnkaaGreatDoorDlF2
namespace Go.Proofs.YtdhkgmhdengnkaaGreatDoor.Dl
open Go Go.Proofs.YtdhkgmhdengnkaaGreatDoorPi Go.RowKit
set_option maxRecDepth 100000
set_option linter.unusedVariables false
noncomputable section
namespace qdlz
abbrev P := Int → Option Int
def f : P := fun a0 => if (iGe a0 4294967296) then if (iGe (ishr a0 32) 65536) then if (iGe (ishr (ishr a0 32) 16) 256) then gd (0 ≤ (IntKind.wrap .u8 (ishr (ishr (ishr a0 32) 16) 8))) <| gd ((IntKind.wrap .u8 (ishr (ishr (ishr a0 32) 16) 8)) < 256) <| some (W (56 + (W (bat (bs [0, 1, 2, 2, 3, 3, 3, 3, 4, 4, 4, 4, 4, 4, 4, 4, 5, 5, 5, 5, 5, 5, 5, 5, 5, 5, 5, 5, 5, 5, 5, 5, 6, 6, 6, 6, 6, 6, 6, 6, 6, 6, 6, 6, 6, 6, 6, 6, 6, 6, 6, 6, 6, 6, 6, 6, 6, 6, 6, 6, 6, 6, 6, 6, 7, 7, 7, 7, 7, 7, 7, 7, 7, 7, 7, 7, 7, 7, 7, 7, 7, 7, 7, 7, 7, 7, 7, 7, 7, 7, 7, 7, 7, 7, 7, 7, 7, 7, 7, 7, 7, 7, 7, 7, 7, 7, 7, 7, 7, 7, 7, 7, 7, 7, 7, 7, 7, 7, 7, 7, 7, 7, 7, 7, 7, 7, 7, 7, 8, 8, 8, 8, 8, 8, 8, 8, 8, 8, 8, 8, 8, 8, 8, 8, 8, 8, 8, 8, 8, 8, 8, 8, 8, 8, 8, 8, 8, 8, 8, 8, 8, 8, 8, 8, 8, 8, 8, 8, 8, 8, 8, 8, 8, 8, 8, 8, 8, 8, 8, 8, 8, 8, 8, 8, 8, 8, 8, 8, 8, 8, 8, 8, 8, 8, 8, 8, 8, 8, 8, 8, 8, 8, 8, 8, 8, 8, 8, 8, 8, 8, 8, 8, 8, 8, 8, 8, 8, 8, 8, 8, 8, 8, 8, 8, 8, 8, 8, 8, 8, 8, 8, 8, 8, 8, 8, 8, 8, 8, 8, 8, 8, 8, 8, 8, 8, 8, 8, 8, 8, 8, 8, 8, 8, 8, 8, 8]) (IntKind.wrap .u8 (ishr (ishr (ishr a0 32) 16) 8)))))) else gd (0 ≤ (IntKind.wrap .u8 (ishr (ishr a0 32) 16))) <| gd ((IntKind.wrap .u8 (ishr (ishr a0 32) 16)) < 256) <| some (W (48 + (W (bat (bs [0, 1, 2, 2, 3, 3, 3, 3, 4, 4, 4, 4, 4, 4, 4, 4, 5, 5, 5, 5, 5, 5, 5, 5, 5, 5, 5, 5, 5, 5, 5, 5, 6, 6, 6, 6, 6, 6, 6, 6, 6, 6, 6, 6, 6, 6, 6, 6, 6, 6, 6, 6, 6, 6, 6, 6, 6, 6, 6, 6, 6, 6, 6, 6, 7, 7, 7, 7, 7, 7, 7, 7, 7, 7, 7, 7, 7, 7, 7, 7, 7, 7, 7, 7, 7, 7, 7, 7, 7, 7, 7, 7, 7, 7, 7, 7, 7, 7, 7, 7, 7, 7, 7, 7, 7, 7, 7, 7, 7, 7, 7, 7, 7, 7, 7, 7, 7, 7, 7, 7, 7, 7, 7, 7, 7, 7, 7, 7, 8, 8, 8, 8, 8, 8, 8, 8, 8, 8, 8, 8, 8, 8, 8, 8, 8, 8, 8, 8, 8, 8, 8, 8, 8, 8, 8, 8, 8, 8, 8, 8, 8, 8, 8, 8, 8, 8, 8, 8, 8, 8, 8, 8, 8, 8, 8, 8, 8, 8, 8, 8, 8, 8, 8, 8, 8, 8, 8, 8, 8, 8, 8, 8, 8, 8, 8, 8, 8, 8, 8, 8, 8, 8, 8, 8, 8, 8, 8, 8, 8, 8, 8, 8, 8, 8, 8, 8, 8, 8, 8, 8, 8, 8, 8, 8, 8, 8, 8, 8, 8, 8, 8, 8, 8, 8, 8, 8, 8, 8, 8, 8, 8, 8, 8, 8, 8, 8, 8, 8, 8, 8, 8, 8, 8, 8, 8, 8]) (IntKind.wrap .u8 (ishr (ishr a0 32) 16)))))) else if (iGe (ishr a0 32) 256) then gd (0 ≤ (IntKind.wrap .u8 (ishr (ishr a0 32) 8))) <| gd ((IntKind.wrap .u8 (ishr (ishr a0 32) 8)) < 256) <| some (W (40 + (W (bat (bs [0, 1, 2, 2, 3, 3, 3, 3, 4, 4, 4, 4, 4, 4, 4, 4, 5, 5, 5, 5, 5, 5, 5, 5, 5, 5, 5, 5, 5, 5, 5, 5, 6, 6, 6, 6, 6, 6, 6, 6, 6, 6, 6, 6, 6, 6, 6, 6, 6, 6, 6, 6, 6, 6, 6, 6, 6, 6, 6, 6, 6, 6, 6, 6, 7, 7, 7, 7, 7, 7, 7, 7, 7, 7, 7, 7, 7, 7, 7, 7, 7, 7, 7, 7, 7, 7, 7, 7, 7, 7, 7, 7, 7, 7, 7, 7, 7, 7, 7, 7, 7, 7, 7, 7, 7, 7, 7, 7, 7, 7, 7, 7, 7, 7, 7, 7, 7, 7, 7, 7, 7, 7, 7, 7, 7, 7, 7, 7, 8, 8, 8, 8, 8, 8, 8, 8, 8, 8, 8, 8, 8, 8, 8, 8, 8, 8, 8, 8, 8, 8, 8, 8, 8, 8, 8, 8, 8, 8, 8, 8, 8, 8, 8, 8, 8, 8, 8, 8, 8, 8, 8, 8, 8, 8, 8, 8, 8, 8, 8, 8, 8, 8, 8, 8, 8, 8, 8, 8, 8, 8, 8, 8, 8, 8, 8, 8, 8, 8, 8, 8, 8, 8, 8, 8, 8, 8, 8, 8, 8, 8, 8, 8, 8, 8, 8, 8, 8, 8, 8, 8, 8, 8, 8, 8, 8, 8, 8, 8, 8, 8, 8, 8, 8, 8, 8, 8, 8, 8, 8, 8, 8, 8, 8, 8, 8, 8, 8, 8, 8, 8, 8, 8, 8, 8, 8, 8]) (IntKind.wrap .u8 (ishr (ishr a0 32) 8)))))) else gd (0 ≤ (IntKind.wrap .u8 (ishr a0 32))) <| gd ((IntKind.wrap .u8 (ishr a0 32)) < 256) <| some (W (32 + (W (bat (bs [0, 1, 2, 2, 3, 3, 3, 3, 4, 4, 4, 4, 4, 4, 4, 4, 5, 5, 5, 5, 5, 5, 5, 5, 5, 5, 5, 5, 5, 5, 5, 5, 6, 6, 6, 6, 6, 6, 6, 6, 6, 6, 6, 6, 6, 6, 6, 6, 6, 6, 6, 6, 6, 6, 6, 6, 6, 6, 6, 6, 6, 6, 6, 6, 7, 7, 7, 7, 7, 7, 7, 7, 7, 7, 7, 7, 7, 7, 7, 7, 7, 7, 7, 7, 7, 7, 7, 7, 7, 7, 7, 7, 7, 7, 7, 7, 7, 7, 7, 7, 7, 7, 7, 7, 7, 7, 7, 7, 7, 7, 7, 7, 7, 7, 7, 7, 7, 7, 7, 7, 7, 7, 7, 7, 7, 7, 7, 7, 8, 8, 8, 8, 8, 8, 8, 8, 8, 8, 8, 8, 8, 8, 8, 8, 8, 8, 8, 8, 8, 8, 8, 8, 8, 8, 8, 8, 8, 8, 8, 8, 8, 8, 8, 8, 8, 8, 8, 8, 8, 8, 8, 8, 8, 8, 8, 8, 8, 8, 8, 8, 8, 8, 8, 8, 8, 8, 8, 8, 8, 8, 8, 8, 8, 8, 8, 8, 8, 8, 8, 8, 8, 8, 8, 8, 8, 8, 8, 8, 8, 8, 8, 8, 8, 8, 8, 8, 8, 8, 8, 8, 8, 8, 8, 8, 8, 8, 8, 8, 8, 8, 8, 8, 8, 8, 8, 8, 8, 8, 8, 8, 8, 8, 8, 8, 8, 8, 8, 8, 8, 8, 8, 8, 8, 8, 8, 8]) (IntKind.wrap .u8 (ishr a0 32)))))) else if (iGe a0 65536) then if (iGe (ishr a0 16) 256) then gd (0 ≤ (IntKind.wrap .u8 (ishr (ishr a0 16) 8))) <| gd ((IntKind.wrap .u8 (ishr (ishr a0 16) 8)) < 256) <| some (W (24 + (W (bat (bs [0, 1, 2, 2, 3, 3, 3, 3, 4, 4, 4, 4, 4, 4, 4, 4, 5, 5, 5, 5, 5, 5, 5, 5, 5, 5, 5, 5, 5, 5, 5, 5, 6, 6, 6, 6, 6, 6, 6, 6, 6, 6, 6, 6, 6, 6, 6, 6, 6, 6, 6, 6, 6, 6, 6, 6, 6, 6, 6, 6, 6, 6, 6, 6, 7, 7, 7, 7, 7, 7, 7, 7, 7, 7, 7, 7, 7, 7, 7, 7, 7, 7, 7, 7, 7, 7, 7, 7, 7, 7, 7, 7, 7, 7, 7, 7, 7, 7, 7, 7, 7, 7, 7, 7, 7, 7, 7, 7, 7, 7, 7, 7, 7, 7, 7, 7, 7, 7, 7, 7, 7, 7, 7, 7, 7, 7, 7, 7, 8, 8, 8, 8, 8, 8, 8, 8, 8, 8, 8, 8, 8, 8, 8, 8, 8, 8, 8, 8, 8, 8, 8, 8, 8, 8, 8, 8, 8, 8, 8, 8, 8, 8, 8, 8, 8, 8, 8, 8, 8, 8, 8, 8, 8, 8, 8, 8, 8, 8, 8, 8, 8, 8, 8, 8, 8, 8, 8, 8, 8, 8, 8, 8, 8, 8, 8, 8, 8, 8, 8, 8, 8, 8, 8, 8, 8, 8, 8, 8, 8, 8, 8, 8, 8, 8, 8, 8, 8, 8, 8, 8, 8, 8, 8, 8, 8, 8, 8, 8, 8, 8, 8, 8, 8, 8, 8, 8, 8, 8, 8, 8, 8, 8, 8, 8, 8, 8, 8, 8, 8, 8, 8, 8, 8, 8, 8, 8]) (IntKind.wrap .u8 (ishr (ishr a0 16) 8)))))) else gd (0 ≤ (IntKind.wrap .u8 (ishr a0 16))) <| gd ((IntKind.wrap .u8 (ishr a0 16)) < 256) <| some (W (16 + (W (bat (bs [0, 1, 2, 2, 3, 3, 3, 3, 4, 4, 4, 4, 4, 4, 4, 4, 5, 5, 5, 5, 5, 5, 5, 5, 5, 5, 5, 5, 5, 5, 5, 5, 6, 6, 6, 6, 6, 6, 6, 6, 6, 6, 6, 6, 6, 6, 6, 6, 6, 6, 6, 6, 6, 6, 6, 6, 6, 6, 6, 6, 6, 6, 6, 6, 7, 7, 7, 7, 7, 7, 7, 7, 7, 7, 7, 7, 7, 7, 7, 7, 7, 7, 7, 7, 7, 7, 7, 7, 7, 7, 7, 7, 7, 7, 7, 7, 7, 7, 7, 7, 7, 7, 7, 7, 7, 7, 7, 7, 7, 7, 7, 7, 7, 7, 7, 7, 7, 7, 7, 7, 7, 7, 7, 7, 7, 7, 7, 7, 8, 8, 8, 8, 8, 8, 8, 8, 8, 8, 8, 8, 8, 8, 8, 8, 8, 8, 8, 8, 8, 8, 8, 8, 8, 8, 8, 8, 8, 8, 8, 8, 8, 8, 8, 8, 8, 8, 8, 8, 8, 8, 8, 8, 8, 8, 8, 8, 8, 8, 8, 8, 8, 8, 8, 8, 8, 8, 8, 8, 8, 8, 8, 8, 8, 8, 8, 8, 8, 8, 8, 8, 8, 8, 8, 8, 8, 8, 8, 8, 8, 8, 8, 8, 8, 8, 8, 8, 8, 8, 8, 8, 8, 8, 8, 8, 8, 8, 8, 8, 8, 8, 8, 8, 8, 8, 8, 8, 8, 8, 8, 8, 8, 8, 8, 8, 8, 8, 8, 8, 8, 8, 8, 8, 8, 8, 8, 8]) (IntKind.wrap .u8 (ishr a0 16)))))) else if (iGe a0 256) then gd (0 ≤ (IntKind.wrap .u8 (ishr a0 8))) <| gd ((IntKind.wrap .u8 (ishr a0 8)) < 256) <| some (W (8 + (W (bat (bs [0, 1, 2, 2, 3, 3, 3, 3, 4, 4, 4, 4, 4, 4, 4, 4, 5, 5, 5, 5, 5, 5, 5, 5, 5, 5, 5, 5, 5, 5, 5, 5, 6, 6, 6, 6, 6, 6, 6, 6, 6, 6, 6, 6, 6, 6, 6, 6, 6, 6, 6, 6, 6, 6, 6, 6, 6, 6, 6, 6, 6, 6, 6, 6, 7, 7, 7, 7, 7, 7, 7, 7, 7, 7, 7, 7, 7, 7, 7, 7, 7, 7, 7, 7, 7, 7, 7, 7, 7, 7, 7, 7, 7, 7, 7, 7, 7, 7, 7, 7, 7, 7, 7, 7, 7, 7, 7, 7, 7, 7, 7, 7, 7, 7, 7, 7, 7, 7, 7, 7, 7, 7, 7, 7, 7, 7, 7, 7, 8, 8, 8, 8, 8, 8, 8, 8, 8, 8, 8, 8, 8, 8, 8, 8, 8, 8, 8, 8, 8, 8, 8, 8, 8, 8, 8, 8, 8, 8, 8, 8, 8, 8, 8, 8, 8, 8, 8, 8, 8, 8, 8, 8, 8, 8, 8, 8, 8, 8, 8, 8, 8, 8, 8, 8, 8, 8, 8, 8, 8, 8, 8, 8, 8, 8, 8, 8, 8, 8, 8, 8, 8, 8, 8, 8, 8, 8, 8, 8, 8, 8, 8, 8, 8, 8, 8, 8, 8, 8, 8, 8, 8, 8, 8, 8, 8, 8, 8, 8, 8, 8, 8, 8, 8, 8, 8, 8, 8, 8, 8, 8, 8, 8, 8, 8, 8, 8, 8, 8, 8, 8, 8, 8, 8, 8, 8, 8]) (IntKind.wrap .u8 (ishr a0 8)))))) else gd (0 ≤ (IntKind.wrap .u8 a0)) <| gd ((IntKind.wrap .u8 a0) < 256) <| some (W (0 + (W (bat (bs [0, 1, 2, 2, 3, 3, 3, 3, 4, 4, 4, 4, 4, 4, 4, 4, 5, 5, 5, 5, 5, 5, 5, 5, 5, 5, 5, 5, 5, 5, 5, 5, 6, 6, 6, 6, 6, 6, 6, 6, 6, 6, 6, 6, 6, 6, 6, 6, 6, 6, 6, 6, 6, 6, 6, 6, 6, 6, 6, 6, 6, 6, 6, 6, 7, 7, 7, 7, 7, 7, 7, 7, 7, 7, 7, 7, 7, 7, 7, 7, 7, 7, 7, 7, 7, 7, 7, 7, 7, 7, 7, 7, 7, 7, 7, 7, 7, 7, 7, 7, 7, 7, 7, 7, 7, 7, 7, 7, 7, 7, 7, 7, 7, 7, 7, 7, 7, 7, 7, 7, 7, 7, 7, 7, 7, 7, 7, 7, 8, 8, 8, 8, 8, 8, 8, 8, 8, 8, 8, 8, 8, 8, 8, 8, 8, 8, 8, 8, 8, 8, 8, 8, 8, 8, 8, 8, 8, 8, 8, 8, 8, 8, 8, 8, 8, 8, 8, 8, 8, 8, 8, 8, 8, 8, 8, 8, 8, 8, 8, 8, 8, 8, 8, 8, 8, 8, 8, 8, 8, 8, 8, 8, 8, 8, 8, 8, 8, 8, 8, 8, 8, 8, 8, 8, 8, 8, 8, 8, 8, 8, 8, 8, 8, 8, 8, 8, 8, 8, 8, 8, 8, 8, 8, 8, 8, 8, 8, 8, 8, 8, 8, 8, 8, 8, 8, 8, 8, 8, 8, 8, 8, 8, 8, 8, 8, 8, 8, 8, 8, 8, 8, 8, 8, 8, 8, 8]) (IntKind.wrap .u8 a0)))))
theorem k {K : Nat} (h : 1 ≤ K) : (fun a0 => PI Cx K 286 [.sv (.one (.int .u64 a0))] : P) = f := by
 obtain ⟨K, rfl⟩ := pos_of_le h
 funext a0
 exact PI_at Cx (by kernel_rfl)
end qdlz
namespace qeyz
abbrev P := Int → Option Int
def f : P := fun a0 => (qdlz.f a0).bind fun t0 =>
 some t0
theorem k {K : Nat} (h : 2 ≤ K) : (fun a0 => PI Cx K 299 [.sv (.one (.int .u64 a0))] : P) = f := by
 obtain ⟨K, rfl⟩ := pos_of_le h
 funext a0
 unfold f
 rw [← qdlz.k (dk h)]
 exact PI_at Cx (by kernel_rfl)
end qeyz
namespace qboz
abbrev P := Int → Int → Int → Int → Option Int
def f : P := fun a0 a1 a2 a3 => (qdoz.f (W (a0 + a1)) (W (a2 + a3))).bind fun t0 =>
 some t0
theorem k {K : Nat} (h : 3 ≤ K) : (fun a0 a1 a2 a3 => PI Cx K 284 [va [ci a0, ci a1], va [ci a2, ci a3]] : P) = f := by
 obtain ⟨K, rfl⟩ := pos_of_le h
 funext a0 a1 a2 a3
 unfold f
 rw [← qdoz.k (dk h)]
 exact PI_at Cx (by kernel_rfl)
end qboz
namespace qadz
def f (k : Fu) (a0 : List (Int × Int)) (a1 a2 : Int) : Option (List (Int × Int)) := PI Cx (k 0) 309 [.sv (.one (.frow 155 (.pair i6 i6) a0)), vi a1, vi a2, .sv (.one (.fn 284 []))]
def l0 (k : Fu) (x0 x1 x2 : Int) (x3 : List (Int × Int)) : Option (List (Int × Int)) := runAt Cx (k 0) 309 [tt, tt] [k 1] ⟨[(0, vf 9000000000000001), (1, vi x0), (2, vi x1), (3, .sv (.one (.fn 284 []))), (8, vi x2)], [(9000000000000001, .row 155 (.pair i6 i6) x3 .lent)], []⟩
def l1 (k : Fu) (x0 x1 x2 x3 : Int) (x4 : List (Int × Int)) : Option (List (Int × Int)) := runAt Cx (k 0) 309 [tt, tt, tt, tt, ff, tt, tt, tt] [k 1, k 2] ⟨[(0, vf 9000000000000001), (1, vi x0), (2, vi x1), (3, .sv (.one (.fn 284 []))), (8, vi x2), (9, vi x3)], [(9000000000000001, .row 155 (.pair i6 i6) x4 .lent)], []⟩
theorem v {a0 : List (Int × Int)} {a1 a2 : Int} {r} (h : Ev (fun k => l0 k a1 a2 (W (a1 + 1)) a0) r) : Ev (fun k => f k a0 a1 a2) r := evf (fun _ _ _ => PI_at Cx (by kernel_rfl)) h
theorem v0 {x0 x1 x2 : Int} {x3 : List (Int × Int)} {r} (h : Ev (fun k => if (iLt x2 x1) then l1 k x0 x1 x2 x2 x3 else some x3) r) : Ev (fun k => l0 k x0 x1 x2 x3) r := evl [] 0 (fun _ _ _ => by kernel_rfl) h
theorem v1 {x0 x1 x2 x3 : Int} {x4 : List (Int × Int)} {r} (h : Ev (fun k => if (iGt x3 x0) then ix x3 x4 <| ix (W (x3 - 1)) x4 <| (qboz.f (rd (0, 0) x4 x3).1 (rd (0, 0) x4 x3).2 (rd (0, 0) x4 (W (x3 - 1))).1 (rd (0, 0) x4 (W (x3 - 1))).2).bind fun t0 =>
 if (iLt t0 0) then ix (W (x3 - 1)) x4 <| ix x3 x4 <| ix x3 x4 <| ix (W (x3 - 1)) (List.set x4 (Int.toNat x3) (rd (0, 0) x4 (W (x3 - 1)))) <| l1 k x0 x1 x2 (W (x3 - 1)) (List.set (List.set x4 (Int.toNat x3) (rd (0, 0) x4 (W (x3 - 1)))) (Int.toNat (W (x3 - 1))) (rd (0, 0) x4 x3)) else l0 k x0 x1 (W (x2 + 1)) x4 else l0 k x0 x1 (W (x2 + 1)) x4) r) : Ev (fun k => l1 k x0 x1 x2 x3 x4) r := evl [1] 1 (fun _ _ h => by rw [← qboz.k (dl h)]; kernel_rfl) h
end qadz
namespace qanz
def f (k : Fu) (a0 : List (Int × Int)) (a1 a2 : Int) : Option (List (Int × Int)) := PI Cx (k 0) 310 [.sv (.one (.frow 155 (.pair i6 i6) a0)), vi a1, vi a2, .sv (.one (.fn 284 []))]
end qanz
namespace qafz
def f (k : Fu) (a0 : List (Int × Int)) (a1 a2 : Int) : Option (List (Int × Int)) := PI Cx (k 0) 311 [.sv (.one (.frow 155 (.pair i6 i6) a0)), vi a1, vi a2, .sv (.one (.fn 284 []))]
end qafz
namespace qajz
def f (k : Fu) (a0 : List (Int × Int)) (a1 a2 : Int) : Option (Int × (Int × (List (Int × Int)))) := PI Cx (k 0) 312 [.sv (.one (.frow 155 (.pair i6 i6) a0)), vi a1, vi a2, .sv (.one (.fn 284 []))]
end qajz
namespace qahz
def f (k : Fu) (a0 : List (Int × Int)) (a1 a2 : Int) : Option (List (Int × Int)) := PI Cx (k 0) 313 [.sv (.one (.frow 155 (.pair i6 i6) a0)), vi a1, vi a2, .sv (.one (.fn 284 []))]
end qahz
namespace qaaz
def f (k : Fu) (a0 : List (Int × Int)) (a1 a2 : Int) : Option (Bool × (List (Int × Int))) := PI Cx (k 0) 314 [.sv (.one (.frow 155 (.pair i6 i6) a0)), vi a1, vi a2, .sv (.one (.fn 284 []))]
end qaaz
namespace qacz
def f (k : Fu) (a0 : List (Int × Int)) (a1 a2 a3 : Int) : Option (Int × (List (Int × Int))) := PI Cx (k 0) 315 [.sv (.one (.frow 155 (.pair i6 i6) a0)), vi a1, vi a2, vi a3, .sv (.one (.fn 284 []))]
end qacz
namespace qamz
def f (k : Fu) (a0 : List (Int × Int)) (a1 a2 a3 : Int) : Option (Int × (Bool × (List (Int × Int)))) := PI Cx (k 0) 316 [.sv (.one (.frow 155 (.pair i6 i6) a0)), vi a1, vi a2, vi a3, .sv (.one (.fn 284 []))]
end qamz
namespace qaqz
def f (k : Fu) (a0 : List (Int × Int)) (a1 a2 a3 : Int) : Option (List (Int × Int)) := PI Cx (k 0) 298 [.sv (.one (.frow 155 (.pair i6 i6) a0)), vi a1, vi a2, vi a3, .sv (.one (.fn 284 []))]
def l0 (k : Fu) (x0 x1 x2 : Int) (x3 x4 : Bool) (x5 : List (Int × Int)) : Option (List (Int × Int)) := runAt Cx (k 0) 298 [tt, tt, tt] [k 1] ⟨[(0, vf 9000000000000001), (1, vi x0), (2, vi x1), (3, vi x2), (4, .sv (.one (.fn 284 []))), (10, vb x3), (11, vb x4)], [(9000000000000001, .row 155 (.pair i6 i6) x5 .lent)], []⟩
theorem v {a0 : List (Int × Int)} {a1 a2 a3 : Int} {r} (h : Ev (fun k => l0 k a1 a2 a3 true true a0) r) : Ev (fun k => f k a0 a1 a2 a3) r := evf (fun _ _ _ => PI_at Cx (by kernel_rfl)) h
theorem v0 {x0 x1 x2 : Int} {x3 x4 : Bool} {x5 : List (Int × Int)} {r} (h : Ev (fun k => if (iLe (W (x1 - x0)) 12) then (qadz.f k x5 x0 x1).bind fun t0 =>
 some t0 else if (x2 == 0) then (qanz.f k x5 x0 x1).bind fun t0 =>
 some t0 else if (!x3) then (qafz.f k x5 x0 x1).bind fun t0 =>
 (qajz.f k t0 x0 x1).bind fun t1 =>
 if (t1.2.1 == 2) then (qahz.f k t1.2.2 x0 x1).bind fun t2 =>
 if x3 then if x4 then (qaaz.f k t2 x0 x1).bind fun t3 =>
 if t3.1 then some t3.2 else if (iGt x0 0) then ix (W (x0 - 1)) t3.2 <| ix (W ((W (x1 - 1)) - (W (t1.1 - x0)))) t3.2 <| (qboz.f (rd (0, 0) t3.2 (W (x0 - 1))).1 (rd (0, 0) t3.2 (W (x0 - 1))).2 (rd (0, 0) t3.2 (W ((W (x1 - 1)) - (W (t1.1 - x0))))).1 (rd (0, 0) t3.2 (W ((W (x1 - 1)) - (W (t1.1 - x0))))).2).bind fun t4 =>
 if (!(iLt t4 0)) then (qacz.f k t3.2 x0 x1 (W ((W (x1 - 1)) - (W (t1.1 - x0))))).bind fun t5 =>
 l0 k t5.1 x1 (W (x2 - 1)) x3 x4 t5.2 else (qamz.f k t3.2 x0 x1 (W ((W (x1 - 1)) - (W (t1.1 - x0))))).bind fun t5 =>
 if (iLt (W (t5.1 - x0)) (W (x1 - t5.1))) then (f k t5.2.2 x0 t5.1 (W (x2 - 1))).bind fun t6 =>
 l0 k (W (t5.1 + 1)) x1 (W (x2 - 1)) (iGe (W (t5.1 - x0)) (W (Int.tdiv (W (x1 - x0)) 8))) t5.2.1 t6 else (f k t5.2.2 (W (t5.1 + 1)) x1 (W (x2 - 1))).bind fun t6 =>
 l0 k x0 t5.1 (W (x2 - 1)) (iGe (W (x1 - t5.1)) (W (Int.tdiv (W (x1 - x0)) 8))) t5.2.1 t6 else (qamz.f k t3.2 x0 x1 (W ((W (x1 - 1)) - (W (t1.1 - x0))))).bind fun t4 =>
 if (iLt (W (t4.1 - x0)) (W (x1 - t4.1))) then (f k t4.2.2 x0 t4.1 (W (x2 - 1))).bind fun t5 =>
 l0 k (W (t4.1 + 1)) x1 (W (x2 - 1)) (iGe (W (t4.1 - x0)) (W (Int.tdiv (W (x1 - x0)) 8))) t4.2.1 t5 else (f k t4.2.2 (W (t4.1 + 1)) x1 (W (x2 - 1))).bind fun t5 =>
 l0 k x0 t4.1 (W (x2 - 1)) (iGe (W (x1 - t4.1)) (W (Int.tdiv (W (x1 - x0)) 8))) t4.2.1 t5 else if (iGt x0 0) then ix (W (x0 - 1)) t2 <| ix (W ((W (x1 - 1)) - (W (t1.1 - x0)))) t2 <| (qboz.f (rd (0, 0) t2 (W (x0 - 1))).1 (rd (0, 0) t2 (W (x0 - 1))).2 (rd (0, 0) t2 (W ((W (x1 - 1)) - (W (t1.1 - x0))))).1 (rd (0, 0) t2 (W ((W (x1 - 1)) - (W (t1.1 - x0))))).2).bind fun t3 =>
 if (!(iLt t3 0)) then (qacz.f k t2 x0 x1 (W ((W (x1 - 1)) - (W (t1.1 - x0))))).bind fun t4 =>
 l0 k t4.1 x1 (W (x2 - 1)) x3 x4 t4.2 else (qamz.f k t2 x0 x1 (W ((W (x1 - 1)) - (W (t1.1 - x0))))).bind fun t4 =>
 if (iLt (W (t4.1 - x0)) (W (x1 - t4.1))) then (f k t4.2.2 x0 t4.1 (W (x2 - 1))).bind fun t5 =>
 l0 k (W (t4.1 + 1)) x1 (W (x2 - 1)) (iGe (W (t4.1 - x0)) (W (Int.tdiv (W (x1 - x0)) 8))) t4.2.1 t5 else (f k t4.2.2 (W (t4.1 + 1)) x1 (W (x2 - 1))).bind fun t5 =>
 l0 k x0 t4.1 (W (x2 - 1)) (iGe (W (x1 - t4.1)) (W (Int.tdiv (W (x1 - x0)) 8))) t4.2.1 t5 else (qamz.f k t2 x0 x1 (W ((W (x1 - 1)) - (W (t1.1 - x0))))).bind fun t3 =>
 if (iLt (W (t3.1 - x0)) (W (x1 - t3.1))) then (f k t3.2.2 x0 t3.1 (W (x2 - 1))).bind fun t4 =>
 l0 k (W (t3.1 + 1)) x1 (W (x2 - 1)) (iGe (W (t3.1 - x0)) (W (Int.tdiv (W (x1 - x0)) 8))) t3.2.1 t4 else (f k t3.2.2 (W (t3.1 + 1)) x1 (W (x2 - 1))).bind fun t4 =>
 l0 k x0 t3.1 (W (x2 - 1)) (iGe (W (x1 - t3.1)) (W (Int.tdiv (W (x1 - x0)) 8))) t3.2.1 t4 else if (iGt x0 0) then ix (W (x0 - 1)) t2 <| ix (W ((W (x1 - 1)) - (W (t1.1 - x0)))) t2 <| (qboz.f (rd (0, 0) t2 (W (x0 - 1))).1 (rd (0, 0) t2 (W (x0 - 1))).2 (rd (0, 0) t2 (W ((W (x1 - 1)) - (W (t1.1 - x0))))).1 (rd (0, 0) t2 (W ((W (x1 - 1)) - (W (t1.1 - x0))))).2).bind fun t3 =>
 if (!(iLt t3 0)) then (qacz.f k t2 x0 x1 (W ((W (x1 - 1)) - (W (t1.1 - x0))))).bind fun t4 =>
 l0 k t4.1 x1 (W (x2 - 1)) x3 x4 t4.2 else (qamz.f k t2 x0 x1 (W ((W (x1 - 1)) - (W (t1.1 - x0))))).bind fun t4 =>
 if (iLt (W (t4.1 - x0)) (W (x1 - t4.1))) then (f k t4.2.2 x0 t4.1 (W (x2 - 1))).bind fun t5 =>
 l0 k (W (t4.1 + 1)) x1 (W (x2 - 1)) (iGe (W (t4.1 - x0)) (W (Int.tdiv (W (x1 - x0)) 8))) t4.2.1 t5 else (f k t4.2.2 (W (t4.1 + 1)) x1 (W (x2 - 1))).bind fun t5 =>
 l0 k x0 t4.1 (W (x2 - 1)) (iGe (W (x1 - t4.1)) (W (Int.tdiv (W (x1 - x0)) 8))) t4.2.1 t5 else (qamz.f k t2 x0 x1 (W ((W (x1 - 1)) - (W (t1.1 - x0))))).bind fun t3 =>
 if (iLt (W (t3.1 - x0)) (W (x1 - t3.1))) then (f k t3.2.2 x0 t3.1 (W (x2 - 1))).bind fun t4 =>
 l0 k (W (t3.1 + 1)) x1 (W (x2 - 1)) (iGe (W (t3.1 - x0)) (W (Int.tdiv (W (x1 - x0)) 8))) t3.2.1 t4 else (f k t3.2.2 (W (t3.1 + 1)) x1 (W (x2 - 1))).bind fun t4 =>
 l0 k x0 t3.1 (W (x2 - 1)) (iGe (W (x1 - t3.1)) (W (Int.tdiv (W (x1 - x0)) 8))) t3.2.1 t4 else if x3 then if x4 then if (t1.2.1 == 1) then (qaaz.f k t1.2.2 x0 x1).bind fun t2 =>
 if t2.1 then some t2.2 else if (iGt x0 0) then ix (W (x0 - 1)) t2.2 <| ix t1.1 t2.2 <| (qboz.f (rd (0, 0) t2.2 (W (x0 - 1))).1 (rd (0, 0) t2.2 (W (x0 - 1))).2 (rd (0, 0) t2.2 t1.1).1 (rd (0, 0) t2.2 t1.1).2).bind fun t3 =>
 if (!(iLt t3 0)) then (qacz.f k t2.2 x0 x1 t1.1).bind fun t4 =>
 l0 k t4.1 x1 (W (x2 - 1)) x3 x4 t4.2 else (qamz.f k t2.2 x0 x1 t1.1).bind fun t4 =>
 if (iLt (W (t4.1 - x0)) (W (x1 - t4.1))) then (f k t4.2.2 x0 t4.1 (W (x2 - 1))).bind fun t5 =>
 l0 k (W (t4.1 + 1)) x1 (W (x2 - 1)) (iGe (W (t4.1 - x0)) (W (Int.tdiv (W (x1 - x0)) 8))) t4.2.1 t5 else (f k t4.2.2 (W (t4.1 + 1)) x1 (W (x2 - 1))).bind fun t5 =>
 l0 k x0 t4.1 (W (x2 - 1)) (iGe (W (x1 - t4.1)) (W (Int.tdiv (W (x1 - x0)) 8))) t4.2.1 t5 else (qamz.f k t2.2 x0 x1 t1.1).bind fun t3 =>
 if (iLt (W (t3.1 - x0)) (W (x1 - t3.1))) then (f k t3.2.2 x0 t3.1 (W (x2 - 1))).bind fun t4 =>
 l0 k (W (t3.1 + 1)) x1 (W (x2 - 1)) (iGe (W (t3.1 - x0)) (W (Int.tdiv (W (x1 - x0)) 8))) t3.2.1 t4 else (f k t3.2.2 (W (t3.1 + 1)) x1 (W (x2 - 1))).bind fun t4 =>
 l0 k x0 t3.1 (W (x2 - 1)) (iGe (W (x1 - t3.1)) (W (Int.tdiv (W (x1 - x0)) 8))) t3.2.1 t4 else if (iGt x0 0) then ix (W (x0 - 1)) t1.2.2 <| ix t1.1 t1.2.2 <| (qboz.f (rd (0, 0) t1.2.2 (W (x0 - 1))).1 (rd (0, 0) t1.2.2 (W (x0 - 1))).2 (rd (0, 0) t1.2.2 t1.1).1 (rd (0, 0) t1.2.2 t1.1).2).bind fun t2 =>
 if (!(iLt t2 0)) then (qacz.f k t1.2.2 x0 x1 t1.1).bind fun t3 =>
 l0 k t3.1 x1 (W (x2 - 1)) x3 x4 t3.2 else (qamz.f k t1.2.2 x0 x1 t1.1).bind fun t3 =>
 if (iLt (W (t3.1 - x0)) (W (x1 - t3.1))) then (f k t3.2.2 x0 t3.1 (W (x2 - 1))).bind fun t4 =>
 l0 k (W (t3.1 + 1)) x1 (W (x2 - 1)) (iGe (W (t3.1 - x0)) (W (Int.tdiv (W (x1 - x0)) 8))) t3.2.1 t4 else (f k t3.2.2 (W (t3.1 + 1)) x1 (W (x2 - 1))).bind fun t4 =>
 l0 k x0 t3.1 (W (x2 - 1)) (iGe (W (x1 - t3.1)) (W (Int.tdiv (W (x1 - x0)) 8))) t3.2.1 t4 else (qamz.f k t1.2.2 x0 x1 t1.1).bind fun t2 =>
 if (iLt (W (t2.1 - x0)) (W (x1 - t2.1))) then (f k t2.2.2 x0 t2.1 (W (x2 - 1))).bind fun t3 =>
 l0 k (W (t2.1 + 1)) x1 (W (x2 - 1)) (iGe (W (t2.1 - x0)) (W (Int.tdiv (W (x1 - x0)) 8))) t2.2.1 t3 else (f k t2.2.2 (W (t2.1 + 1)) x1 (W (x2 - 1))).bind fun t3 =>
 l0 k x0 t2.1 (W (x2 - 1)) (iGe (W (x1 - t2.1)) (W (Int.tdiv (W (x1 - x0)) 8))) t2.2.1 t3 else if (iGt x0 0) then ix (W (x0 - 1)) t1.2.2 <| ix t1.1 t1.2.2 <| (qboz.f (rd (0, 0) t1.2.2 (W (x0 - 1))).1 (rd (0, 0) t1.2.2 (W (x0 - 1))).2 (rd (0, 0) t1.2.2 t1.1).1 (rd (0, 0) t1.2.2 t1.1).2).bind fun t2 =>
 if (!(iLt t2 0)) then (qacz.f k t1.2.2 x0 x1 t1.1).bind fun t3 =>
 l0 k t3.1 x1 (W (x2 - 1)) x3 x4 t3.2 else (qamz.f k t1.2.2 x0 x1 t1.1).bind fun t3 =>
 if (iLt (W (t3.1 - x0)) (W (x1 - t3.1))) then (f k t3.2.2 x0 t3.1 (W (x2 - 1))).bind fun t4 =>
 l0 k (W (t3.1 + 1)) x1 (W (x2 - 1)) (iGe (W (t3.1 - x0)) (W (Int.tdiv (W (x1 - x0)) 8))) t3.2.1 t4 else (f k t3.2.2 (W (t3.1 + 1)) x1 (W (x2 - 1))).bind fun t4 =>
 l0 k x0 t3.1 (W (x2 - 1)) (iGe (W (x1 - t3.1)) (W (Int.tdiv (W (x1 - x0)) 8))) t3.2.1 t4 else (qamz.f k t1.2.2 x0 x1 t1.1).bind fun t2 =>
 if (iLt (W (t2.1 - x0)) (W (x1 - t2.1))) then (f k t2.2.2 x0 t2.1 (W (x2 - 1))).bind fun t3 =>
 l0 k (W (t2.1 + 1)) x1 (W (x2 - 1)) (iGe (W (t2.1 - x0)) (W (Int.tdiv (W (x1 - x0)) 8))) t2.2.1 t3 else (f k t2.2.2 (W (t2.1 + 1)) x1 (W (x2 - 1))).bind fun t3 =>
 l0 k x0 t2.1 (W (x2 - 1)) (iGe (W (x1 - t2.1)) (W (Int.tdiv (W (x1 - x0)) 8))) t2.2.1 t3 else if (iGt x0 0) then ix (W (x0 - 1)) t1.2.2 <| ix t1.1 t1.2.2 <| (qboz.f (rd (0, 0) t1.2.2 (W (x0 - 1))).1 (rd (0, 0) t1.2.2 (W (x0 - 1))).2 (rd (0, 0) t1.2.2 t1.1).1 (rd (0, 0) t1.2.2 t1.1).2).bind fun t2 =>
 if (!(iLt t2 0)) then (qacz.f k t1.2.2 x0 x1 t1.1).bind fun t3 =>
 l0 k t3.1 x1 (W (x2 - 1)) x3 x4 t3.2 else (qamz.f k t1.2.2 x0 x1 t1.1).bind fun t3 =>
 if (iLt (W (t3.1 - x0)) (W (x1 - t3.1))) then (f k t3.2.2 x0 t3.1 (W (x2 - 1))).bind fun t4 =>
 l0 k (W (t3.1 + 1)) x1 (W (x2 - 1)) (iGe (W (t3.1 - x0)) (W (Int.tdiv (W (x1 - x0)) 8))) t3.2.1 t4 else (f k t3.2.2 (W (t3.1 + 1)) x1 (W (x2 - 1))).bind fun t4 =>
 l0 k x0 t3.1 (W (x2 - 1)) (iGe (W (x1 - t3.1)) (W (Int.tdiv (W (x1 - x0)) 8))) t3.2.1 t4 else (qamz.f k t1.2.2 x0 x1 t1.1).bind fun t2 =>
 if (iLt (W (t2.1 - x0)) (W (x1 - t2.1))) then (f k t2.2.2 x0 t2.1 (W (x2 - 1))).bind fun t3 =>
 l0 k (W (t2.1 + 1)) x1 (W (x2 - 1)) (iGe (W (t2.1 - x0)) (W (Int.tdiv (W (x1 - x0)) 8))) t2.2.1 t3 else (f k t2.2.2 (W (t2.1 + 1)) x1 (W (x2 - 1))).bind fun t3 =>
 l0 k x0 t2.1 (W (x2 - 1)) (iGe (W (x1 - t2.1)) (W (Int.tdiv (W (x1 - x0)) 8))) t2.2.1 t3 else (qajz.f k x5 x0 x1).bind fun t0 =>
 if (t0.2.1 == 2) then (qahz.f k t0.2.2 x0 x1).bind fun t1 =>
 if x3 then if x4 then (qaaz.f k t1 x0 x1).bind fun t2 =>
 if t2.1 then some t2.2 else if (iGt x0 0) then ix (W (x0 - 1)) t2.2 <| ix (W ((W (x1 - 1)) - (W (t0.1 - x0)))) t2.2 <| (qboz.f (rd (0, 0) t2.2 (W (x0 - 1))).1 (rd (0, 0) t2.2 (W (x0 - 1))).2 (rd (0, 0) t2.2 (W ((W (x1 - 1)) - (W (t0.1 - x0))))).1 (rd (0, 0) t2.2 (W ((W (x1 - 1)) - (W (t0.1 - x0))))).2).bind fun t3 =>
 if (!(iLt t3 0)) then (qacz.f k t2.2 x0 x1 (W ((W (x1 - 1)) - (W (t0.1 - x0))))).bind fun t4 =>
 l0 k t4.1 x1 x2 x3 x4 t4.2 else (qamz.f k t2.2 x0 x1 (W ((W (x1 - 1)) - (W (t0.1 - x0))))).bind fun t4 =>
 if (iLt (W (t4.1 - x0)) (W (x1 - t4.1))) then (f k t4.2.2 x0 t4.1 x2).bind fun t5 =>
 l0 k (W (t4.1 + 1)) x1 x2 (iGe (W (t4.1 - x0)) (W (Int.tdiv (W (x1 - x0)) 8))) t4.2.1 t5 else (f k t4.2.2 (W (t4.1 + 1)) x1 x2).bind fun t5 =>
 l0 k x0 t4.1 x2 (iGe (W (x1 - t4.1)) (W (Int.tdiv (W (x1 - x0)) 8))) t4.2.1 t5 else (qamz.f k t2.2 x0 x1 (W ((W (x1 - 1)) - (W (t0.1 - x0))))).bind fun t3 =>
 if (iLt (W (t3.1 - x0)) (W (x1 - t3.1))) then (f k t3.2.2 x0 t3.1 x2).bind fun t4 =>
 l0 k (W (t3.1 + 1)) x1 x2 (iGe (W (t3.1 - x0)) (W (Int.tdiv (W (x1 - x0)) 8))) t3.2.1 t4 else (f k t3.2.2 (W (t3.1 + 1)) x1 x2).bind fun t4 =>
 l0 k x0 t3.1 x2 (iGe (W (x1 - t3.1)) (W (Int.tdiv (W (x1 - x0)) 8))) t3.2.1 t4 else if (iGt x0 0) then ix (W (x0 - 1)) t1 <| ix (W ((W (x1 - 1)) - (W (t0.1 - x0)))) t1 <| (qboz.f (rd (0, 0) t1 (W (x0 - 1))).1 (rd (0, 0) t1 (W (x0 - 1))).2 (rd (0, 0) t1 (W ((W (x1 - 1)) - (W (t0.1 - x0))))).1 (rd (0, 0) t1 (W ((W (x1 - 1)) - (W (t0.1 - x0))))).2).bind fun t2 =>
 if (!(iLt t2 0)) then (qacz.f k t1 x0 x1 (W ((W (x1 - 1)) - (W (t0.1 - x0))))).bind fun t3 =>
 l0 k t3.1 x1 x2 x3 x4 t3.2 else (qamz.f k t1 x0 x1 (W ((W (x1 - 1)) - (W (t0.1 - x0))))).bind fun t3 =>
 if (iLt (W (t3.1 - x0)) (W (x1 - t3.1))) then (f k t3.2.2 x0 t3.1 x2).bind fun t4 =>
 l0 k (W (t3.1 + 1)) x1 x2 (iGe (W (t3.1 - x0)) (W (Int.tdiv (W (x1 - x0)) 8))) t3.2.1 t4 else (f k t3.2.2 (W (t3.1 + 1)) x1 x2).bind fun t4 =>
 l0 k x0 t3.1 x2 (iGe (W (x1 - t3.1)) (W (Int.tdiv (W (x1 - x0)) 8))) t3.2.1 t4 else (qamz.f k t1 x0 x1 (W ((W (x1 - 1)) - (W (t0.1 - x0))))).bind fun t2 =>
 if (iLt (W (t2.1 - x0)) (W (x1 - t2.1))) then (f k t2.2.2 x0 t2.1 x2).bind fun t3 =>
 l0 k (W (t2.1 + 1)) x1 x2 (iGe (W (t2.1 - x0)) (W (Int.tdiv (W (x1 - x0)) 8))) t2.2.1 t3 else (f k t2.2.2 (W (t2.1 + 1)) x1 x2).bind fun t3 =>
 l0 k x0 t2.1 x2 (iGe (W (x1 - t2.1)) (W (Int.tdiv (W (x1 - x0)) 8))) t2.2.1 t3 else if (iGt x0 0) then ix (W (x0 - 1)) t1 <| ix (W ((W (x1 - 1)) - (W (t0.1 - x0)))) t1 <| (qboz.f (rd (0, 0) t1 (W (x0 - 1))).1 (rd (0, 0) t1 (W (x0 - 1))).2 (rd (0, 0) t1 (W ((W (x1 - 1)) - (W (t0.1 - x0))))).1 (rd (0, 0) t1 (W ((W (x1 - 1)) - (W (t0.1 - x0))))).2).bind fun t2 =>
 if (!(iLt t2 0)) then (qacz.f k t1 x0 x1 (W ((W (x1 - 1)) - (W (t0.1 - x0))))).bind fun t3 =>
 l0 k t3.1 x1 x2 x3 x4 t3.2 else (qamz.f k t1 x0 x1 (W ((W (x1 - 1)) - (W (t0.1 - x0))))).bind fun t3 =>
 if (iLt (W (t3.1 - x0)) (W (x1 - t3.1))) then (f k t3.2.2 x0 t3.1 x2).bind fun t4 =>
 l0 k (W (t3.1 + 1)) x1 x2 (iGe (W (t3.1 - x0)) (W (Int.tdiv (W (x1 - x0)) 8))) t3.2.1 t4 else (f k t3.2.2 (W (t3.1 + 1)) x1 x2).bind fun t4 =>
 l0 k x0 t3.1 x2 (iGe (W (x1 - t3.1)) (W (Int.tdiv (W (x1 - x0)) 8))) t3.2.1 t4 else (qamz.f k t1 x0 x1 (W ((W (x1 - 1)) - (W (t0.1 - x0))))).bind fun t2 =>
 if (iLt (W (t2.1 - x0)) (W (x1 - t2.1))) then (f k t2.2.2 x0 t2.1 x2).bind fun t3 =>
 l0 k (W (t2.1 + 1)) x1 x2 (iGe (W (t2.1 - x0)) (W (Int.tdiv (W (x1 - x0)) 8))) t2.2.1 t3 else (f k t2.2.2 (W (t2.1 + 1)) x1 x2).bind fun t3 =>
 l0 k x0 t2.1 x2 (iGe (W (x1 - t2.1)) (W (Int.tdiv (W (x1 - x0)) 8))) t2.2.1 t3 else if x3 then if x4 then if (t0.2.1 == 1) then (qaaz.f k t0.2.2 x0 x1).bind fun t1 =>
 if t1.1 then some t1.2 else if (iGt x0 0) then ix (W (x0 - 1)) t1.2 <| ix t0.1 t1.2 <| (qboz.f (rd (0, 0) t1.2 (W (x0 - 1))).1 (rd (0, 0) t1.2 (W (x0 - 1))).2 (rd (0, 0) t1.2 t0.1).1 (rd (0, 0) t1.2 t0.1).2).bind fun t2 =>
 if (!(iLt t2 0)) then (qacz.f k t1.2 x0 x1 t0.1).bind fun t3 =>
 l0 k t3.1 x1 x2 x3 x4 t3.2 else (qamz.f k t1.2 x0 x1 t0.1).bind fun t3 =>
 if (iLt (W (t3.1 - x0)) (W (x1 - t3.1))) then (f k t3.2.2 x0 t3.1 x2).bind fun t4 =>
 l0 k (W (t3.1 + 1)) x1 x2 (iGe (W (t3.1 - x0)) (W (Int.tdiv (W (x1 - x0)) 8))) t3.2.1 t4 else (f k t3.2.2 (W (t3.1 + 1)) x1 x2).bind fun t4 =>
 l0 k x0 t3.1 x2 (iGe (W (x1 - t3.1)) (W (Int.tdiv (W (x1 - x0)) 8))) t3.2.1 t4 else (qamz.f k t1.2 x0 x1 t0.1).bind fun t2 =>
 if (iLt (W (t2.1 - x0)) (W (x1 - t2.1))) then (f k t2.2.2 x0 t2.1 x2).bind fun t3 =>
 l0 k (W (t2.1 + 1)) x1 x2 (iGe (W (t2.1 - x0)) (W (Int.tdiv (W (x1 - x0)) 8))) t2.2.1 t3 else (f k t2.2.2 (W (t2.1 + 1)) x1 x2).bind fun t3 =>
 l0 k x0 t2.1 x2 (iGe (W (x1 - t2.1)) (W (Int.tdiv (W (x1 - x0)) 8))) t2.2.1 t3 else if (iGt x0 0) then ix (W (x0 - 1)) t0.2.2 <| ix t0.1 t0.2.2 <| (qboz.f (rd (0, 0) t0.2.2 (W (x0 - 1))).1 (rd (0, 0) t0.2.2 (W (x0 - 1))).2 (rd (0, 0) t0.2.2 t0.1).1 (rd (0, 0) t0.2.2 t0.1).2).bind fun t1 =>
 if (!(iLt t1 0)) then (qacz.f k t0.2.2 x0 x1 t0.1).bind fun t2 =>
 l0 k t2.1 x1 x2 x3 x4 t2.2 else (qamz.f k t0.2.2 x0 x1 t0.1).bind fun t2 =>
 if (iLt (W (t2.1 - x0)) (W (x1 - t2.1))) then (f k t2.2.2 x0 t2.1 x2).bind fun t3 =>
 l0 k (W (t2.1 + 1)) x1 x2 (iGe (W (t2.1 - x0)) (W (Int.tdiv (W (x1 - x0)) 8))) t2.2.1 t3 else (f k t2.2.2 (W (t2.1 + 1)) x1 x2).bind fun t3 =>
 l0 k x0 t2.1 x2 (iGe (W (x1 - t2.1)) (W (Int.tdiv (W (x1 - x0)) 8))) t2.2.1 t3 else (qamz.f k t0.2.2 x0 x1 t0.1).bind fun t1 =>
 if (iLt (W (t1.1 - x0)) (W (x1 - t1.1))) then (f k t1.2.2 x0 t1.1 x2).bind fun t2 =>
 l0 k (W (t1.1 + 1)) x1 x2 (iGe (W (t1.1 - x0)) (W (Int.tdiv (W (x1 - x0)) 8))) t1.2.1 t2 else (f k t1.2.2 (W (t1.1 + 1)) x1 x2).bind fun t2 =>
 l0 k x0 t1.1 x2 (iGe (W (x1 - t1.1)) (W (Int.tdiv (W (x1 - x0)) 8))) t1.2.1 t2 else if (iGt x0 0) then ix (W (x0 - 1)) t0.2.2 <| ix t0.1 t0.2.2 <| (qboz.f (rd (0, 0) t0.2.2 (W (x0 - 1))).1 (rd (0, 0) t0.2.2 (W (x0 - 1))).2 (rd (0, 0) t0.2.2 t0.1).1 (rd (0, 0) t0.2.2 t0.1).2).bind fun t1 =>
 if (!(iLt t1 0)) then (qacz.f k t0.2.2 x0 x1 t0.1).bind fun t2 =>
 l0 k t2.1 x1 x2 x3 x4 t2.2 else (qamz.f k t0.2.2 x0 x1 t0.1).bind fun t2 =>
 if (iLt (W (t2.1 - x0)) (W (x1 - t2.1))) then (f k t2.2.2 x0 t2.1 x2).bind fun t3 =>
 l0 k (W (t2.1 + 1)) x1 x2 (iGe (W (t2.1 - x0)) (W (Int.tdiv (W (x1 - x0)) 8))) t2.2.1 t3 else (f k t2.2.2 (W (t2.1 + 1)) x1 x2).bind fun t3 =>
 l0 k x0 t2.1 x2 (iGe (W (x1 - t2.1)) (W (Int.tdiv (W (x1 - x0)) 8))) t2.2.1 t3 else (qamz.f k t0.2.2 x0 x1 t0.1).bind fun t1 =>
 if (iLt (W (t1.1 - x0)) (W (x1 - t1.1))) then (f k t1.2.2 x0 t1.1 x2).bind fun t2 =>
 l0 k (W (t1.1 + 1)) x1 x2 (iGe (W (t1.1 - x0)) (W (Int.tdiv (W (x1 - x0)) 8))) t1.2.1 t2 else (f k t1.2.2 (W (t1.1 + 1)) x1 x2).bind fun t2 =>
 l0 k x0 t1.1 x2 (iGe (W (x1 - t1.1)) (W (Int.tdiv (W (x1 - x0)) 8))) t1.2.1 t2 else if (iGt x0 0) then ix (W (x0 - 1)) t0.2.2 <| ix t0.1 t0.2.2 <| (qboz.f (rd (0, 0) t0.2.2 (W (x0 - 1))).1 (rd (0, 0) t0.2.2 (W (x0 - 1))).2 (rd (0, 0) t0.2.2 t0.1).1 (rd (0, 0) t0.2.2 t0.1).2).bind fun t1 =>
 if (!(iLt t1 0)) then (qacz.f k t0.2.2 x0 x1 t0.1).bind fun t2 =>
 l0 k t2.1 x1 x2 x3 x4 t2.2 else (qamz.f k t0.2.2 x0 x1 t0.1).bind fun t2 =>
 if (iLt (W (t2.1 - x0)) (W (x1 - t2.1))) then (f k t2.2.2 x0 t2.1 x2).bind fun t3 =>
 l0 k (W (t2.1 + 1)) x1 x2 (iGe (W (t2.1 - x0)) (W (Int.tdiv (W (x1 - x0)) 8))) t2.2.1 t3 else (f k t2.2.2 (W (t2.1 + 1)) x1 x2).bind fun t3 =>
 l0 k x0 t2.1 x2 (iGe (W (x1 - t2.1)) (W (Int.tdiv (W (x1 - x0)) 8))) t2.2.1 t3 else (qamz.f k t0.2.2 x0 x1 t0.1).bind fun t1 =>
 if (iLt (W (t1.1 - x0)) (W (x1 - t1.1))) then (f k t1.2.2 x0 t1.1 x2).bind fun t2 =>
 l0 k (W (t1.1 + 1)) x1 x2 (iGe (W (t1.1 - x0)) (W (Int.tdiv (W (x1 - x0)) 8))) t1.2.1 t2 else (f k t1.2.2 (W (t1.1 + 1)) x1 x2).bind fun t2 =>
 l0 k x0 t1.1 x2 (iGe (W (x1 - t1.1)) (W (Int.tdiv (W (x1 - x0)) 8))) t1.2.1 t2) r) : Ev (fun k => l0 k x0 x1 x2 x3 x4 x5) r := evl [] 0 (fun _ _ h => by rw [← qboz.k (dl h)]; kernel_rfl) h
end qaqz
namespace qaiz
def f (k : Fu) (a0 : List (Int × Int)) : Option (List (Int × Int)) := PI Cx (k 0) 283 [.sv (.one (.frow 155 (.pair i6 i6) a0)), .sv (.one (.fn 284 []))]
theorem v {a0 : List (Int × Int)} {r} (h : Ev (fun k => (qeyz.f (IntKind.wrap .u64 (ln a0))).bind fun t0 =>
 (qaqz.f k a0 0 (ln a0) t0).bind fun t1 =>
 some t1) r) : Ev (fun k => f k a0) r := evf (fun _ _ h => by rw [← qeyz.k (dl h)]; exact PI_at Cx (by kernel_rfl)) h
end qaiz
namespace qbyz
def f (k : Fu) (a0 : List (Int × Int)) : Option ((List Int) × Bool) := PI Cx (k 0) 256 [vl 155 (.pair i6 i6) a0]
def l0 (k : Fu) (x0 x1 x2 : Int) (x3 : List Int) (x4 : List (Int × Int)) : Option ((List Int) × Bool) := runAt Cx (k 0) 256 [tt, tt, tt, tt, tt, tt, ff, tt, tt] [k 1] ⟨[(5, vf 1000000005000), (6, vi x0), (16, vf 1000000016000), (17, vi x1), (18, vi x2)], [(1000000005000, .row 3 i6 x3 .own), (1000000016000, .row 155 (.pair i6 i6) x4 .own)], []⟩
theorem v {a0 : List (Int × Int)} {r} (h : Ev (fun k => (qeiz.f k a0).bind fun t0 =>
 if (!t0) then some ([], false) else (qbiz.f a0).bind fun t1 =>
 (qaiz.f k t1).bind fun t2 =>
 l0 k (-1) (ln t2) 0 [] t2) r) : Ev (fun k => f k a0) r := evf (fun _ _ h => by rw [← qbiz.k (dl h)]; exact PI_at Cx (by kernel_rfl)) h
theorem v0 {x0 x1 x2 : Int} {x3 : List Int} {x4 : List (Int × Int)} {r} (h : Ev (fun k => if (iLt x2 x1) then ix x2 x4 <| if (iGt (rd (0, 0) x4 x2).1 x0) then gd (((lnN x3) + 1) ≤ 17592186044416) <| l0 k (W ((rd (0, 0) x4 x2).1 + (rd (0, 0) x4 x2).2)) x1 (W (x2 + 1)) (x3 ++ [(W ((rd (0, 0) x4 x2).1 + (rd (0, 0) x4 x2).2))]) x4 else l0 k x0 x1 (W (x2 + 1)) x3 x4 else some (x3, true)) r) : Ev (fun k => l0 k x0 x1 x2 x3 x4) r := evl [] 0 (fun _ _ _ => by kernel_rfl) h
end qbyz
namespace qecz
abbrev P := Int → Option Bool
def f : P := fun a0 => (qgwz.f a0 1 200).bind fun t0 =>
 some t0
theorem k {K : Nat} (h : 2 ≤ K) : (fun a0 => PI Cx K 184 [vi a0] : P) = f := by
 obtain ⟨K, rfl⟩ := pos_of_le h
 funext a0
 unfold f
 rw [← qgwz.k (dk h)]
 exact PI_at Cx (by kernel_rfl)
end qecz
namespace qfcz
abbrev P := Int → Int → Int → Option Bool
def f : P := fun a0 a1 a2 => (qecz.f a0).bind fun t0 =>
 if t0 then (qgwz.f a1 0 200).bind fun t1 =>
 if t1 then (qgwz.f a2 0 200).bind fun t2 =>
 some t2 else some false else some false
theorem k {K : Nat} (h : 3 ≤ K) : (fun a0 a1 a2 => PI Cx K 117 [vi a0, vi a1, vi a2] : P) = f := by
 obtain ⟨K, rfl⟩ := pos_of_le h
 funext a0 a1 a2
 unfold f
 rw [← qecz.k (dk h), ← qgwz.k (dk h)]
 exact PI_at Cx (by kernel_rfl)
end qfcz
namespace qbsz
def f (k : Fu) (a0 a1 a2 : Int) : Option Int := PI Cx (k 0) 118 [vi a0, vi a1, vi a2]
def l0 (k : Fu) (x0 x1 x2 x3 x4 x5 : Int) : Option Int := runAt Cx (k 0) 118 [tt, tt, ff, tt, tt] [k 1] ⟨[(0, vi x0), (1, vi x1), (2, vi x2), (7, vi x3), (10, vi x4), (11, vi x5)], [], []⟩
def l1 (k : Fu) (x0 x1 x2 x3 x4 x5 x6 x7 x8 : Int) : Option Int := runAt Cx (k 0) 118 [tt, tt, ff, tt, tt, tt, tt, tt, ff, tt, tt, tt, tt] [k 1, k 2] ⟨[(0, vi x0), (1, vi x1), (2, vi x2), (7, vi x3), (8, vi x4), (10, vi x5), (11, vi x6), (14, vi x7), (15, vi x8)], [], []⟩
theorem v {a0 a1 a2 : Int} {r} (h : Ev (fun k => l0 k a0 a1 a2 0 a0 0) r) : Ev (fun k => f k a0 a1 a2) r := evf (fun _ _ _ => PI_at Cx (by kernel_rfl)) h
theorem v0 {x0 x1 x2 x3 x4 x5 : Int} {r} (h : Ev (fun k => if (iLt x5 x4) then l1 k x0 x1 x2 x3 x5 x4 x5 x0 0 else some x3) r) : Ev (fun k => l0 k x0 x1 x2 x3 x4 x5) r := evl [] 0 (fun _ _ _ => by kernel_rfl) h
theorem v1 {x0 x1 x2 x3 x4 x5 x6 x7 x8 : Int} {r} (h : Ev (fun k => if (iLt x8 x7) then if (iLe x8 (W (x4 + x1))) then if (iLe x4 (W (x8 + x2))) then l1 k x0 x1 x2 (W (x3 + 1)) x4 x5 x6 x7 (W (x8 + 1)) else l1 k x0 x1 x2 x3 x4 x5 x6 x7 (W (x8 + 1)) else l1 k x0 x1 x2 x3 x4 x5 x6 x7 (W (x8 + 1)) else l0 k x0 x1 x2 x3 x5 (W (x6 + 1))) r) : Ev (fun k => l1 k x0 x1 x2 x3 x4 x5 x6 x7 x8) r := evl [1] 1 (fun _ _ _ => by kernel_rfl) h
end qbsz
namespace qbpz
def f (k : Fu) (a0 a1 a2 : Int) : Option (Int × (Int × Bool)) := PI Cx (k 0) 66 [vi a0, vi a1, vi a2]
theorem v {a0 a1 a2 : Int} {r} (h : Ev (fun k => (qfcz.f a0 a1 a2).bind fun t0 =>
 if (!t0) then some (0, (0, false)) else (qbsz.f k a0 a1 a2).bind fun t1 =>
 (qffz.f k t1 (W (a0 * a0))).bind fun t2 =>
 some t2) r) : Ev (fun k => f k a0 a1 a2) r := evf (fun _ _ h => by rw [← qfcz.k (dl h)]; exact PI_at Cx (by kernel_rfl)) h
end qbpz
namespace qeez
def f (k : Fu) (a0 : BA) (a1 : List (Int × Int)) (a2 a3 a4 a5 : Int) (a6 a7 : List (Int × Int)) (a8 : List Int) : Option (BA × (Bool × ((List (Int × Int)) × (Int × (Int × (Int × (Int × ((List (Int × Int)) × ((List (Int × Int)) × (List Int)))))))))) := PI Cx (k 0) 204 [vs a0, va [.sl 74 (.pair i6 i6) a1, ci a2, ci a3, ci a4, ci a5, .sl 88 (.pair i6 i6) a6, .sl 155 (.pair i6 i6) a7, .frow 3 i6 a8]]
theorem v {a0 : BA} {a1 : List (Int × Int)} {a2 a3 a4 a5 : Int} {a6 a7 : List (Int × Int)} {a8 : List Int} {r} (h : Ev (fun k => if (seq a0 (bs [100, 111, 103])) then (qdiz.f k a2 a3 a4 a5).bind fun t0 =>
 (qhyz.f k t0.1 t0.2.1 t0.2.2).bind fun t1 =>
 some (t1.1, (t1.2, (a1, (a2, (a3, (a4, (a5, (a6, (a7, a8))))))))) else if (seq a0 (bs [114, 117, 110])) then (qdez.f k a2 a3 a4 a5).bind fun t0 =>
 (qhyz.f k t0.1 t0.2.1 t0.2.2).bind fun t1 =>
 some (t1.1, (t1.2, (a1, (a2, (a3, (a4, (a5, (a6, (a7, a8))))))))) else if (seq a0 (bs [97, 112, 97, 114, 116])) then gd (0 < (ln a8)) <| (qbnz.f k a2 a3 a4 a5 (rd 0 a8 0)).bind fun t0 =>
 (qhyz.f k t0.1 t0.2.1 t0.2.2).bind fun t1 =>
 some (t1.1, (t1.2, (a1, (a2, (a3, (a4, (a5, (a6, (a7, a8))))))))) else if (seq a0 (bs [109, 101, 97, 110])) then (qejz.f k a6).bind fun t0 =>
 (qhyz.f k t0.1 t0.2.1 t0.2.2).bind fun t1 =>
 some (t1.1, (t1.2, (a1, (a2, (a3, (a4, (a5, (a6, (a7, a8))))))))) else if (seq a0 (bs [116, 105, 109, 101])) then (qdsz.f k a6).bind fun t0 =>
 (qhyz.f k t0.1 t0.2.1 t0.2.2).bind fun t1 =>
 some (t1.1, (t1.2, (a1, (a2, (a3, (a4, (a5, (a6, (a7, a8))))))))) else if (seq a0 (bs [110, 101, 101, 100])) then gd (0 < (ln a8)) <| gd (1 < (ln a8)) <| (qcvz.f k a6 (rd 0 a8 0) (rd 0 a8 1)).bind fun t0 =>
 (qhyz.f k t0.1 t0.2.1 t0.2.2).bind fun t1 =>
 some (t1.1, (t1.2, (a1, (a2, (a3, (a4, (a5, (a6, (a7, a8))))))))) else if (seq a0 (bs [118, 105, 115, 105, 116, 115])) then (qcgz.f k a7).bind fun t0 =>
 (qhsz.f k t0.1 (bs [44]) (bs [32]) t0.2).bind fun t1 =>
 some (t1.1, (t1.2, (a1, (a2, (a3, (a4, (a5, (a6, (a7, a8))))))))) else if (seq a0 (bs [103, 117, 105, 100, 101, 115])) then (qbyz.f k a7).bind fun t0 =>
 (qfjz.f k t0.1 t0.2).bind fun t1 =>
 some (t1.1, (t1.2, (a1, (a2, (a3, (a4, (a5, (a6, (a7, a8))))))))) else gd (0 < (ln a8)) <| gd (1 < (ln a8)) <| gd (2 < (ln a8)) <| (qbpz.f k (rd 0 a8 0) (rd 0 a8 1) (rd 0 a8 2)).bind fun t0 =>
 (qhyz.f k t0.1 t0.2.1 t0.2.2).bind fun t1 =>
 some (t1.1, (t1.2, (a1, (a2, (a3, (a4, (a5, (a6, (a7, a8)))))))))) r) : Ev (fun k => f k a0 a1 a2 a3 a4 a5 a6 a7 a8) r := evf (fun _ _ _ => PI_at Cx (by kernel_rfl)) h
end qeez
namespace qewz
def f (k : Fu) (a0 : List (Int × Int)) (a1 : Int) (a2 : BA) (a3 : List (Int × Int)) (a4 a5 a6 a7 : Int) (a8 a9 : List (Int × Int)) (a10 : List Int) : Option (BA × (Bool × ((List (Int × Int)) × (Int × (Int × (Int × (Int × ((List (Int × Int)) × ((List (Int × Int)) × (List Int)))))))))) := PI Cx (k 0) 142 [va [.sl 74 (.pair i6 i6) a0, ci a1], vs a2, va [.sl 74 (.pair i6 i6) a3, ci a4, ci a5, ci a6, ci a7, .sl 88 (.pair i6 i6) a8, .sl 155 (.pair i6 i6) a9, .frow 3 i6 a10]]
theorem v {a0 : List (Int × Int)} {a1 : Int} {a2 : BA} {a3 : List (Int × Int)} {a4 a5 a6 a7 : Int} {a8 a9 : List (Int × Int)} {a10 : List Int} {r} (h : Ev (fun k => if (seq a2 (bs [112, 97, 105, 114, 115])) then (qbwz.f k a0).bind fun t0 =>
 (qguz.f t0.1 t0.2).bind fun t1 =>
 some (t1.1, (t1.2, (a3, (a4, (a5, (a6, (a7, (a8, (a9, a10))))))))) else if (seq a2 (bs [102, 105, 114, 115, 116])) then (qcrz.f k a0).bind fun t0 =>
 if (!t0.2) then some ((bs []), (false, (a3, (a4, (a5, (a6, (a7, (a8, (a9, a10))))))))) else if ((ln t0.1) == 0) then some ((bs []), (false, (a3, (a4, (a5, (a6, (a7, (a8, (a9, a10))))))))) else gd (0 < (ln t0.1)) <| gd (2 ≤ (ln (rd [] t0.1 0))) <| (qfjz.f k (List.take 2 (rd [] t0.1 0)) true).bind fun t1 =>
 some (t1.1, (t1.2, (a3, (a4, (a5, (a6, (a7, (a8, (a9, a10))))))))) else if (seq a2 (bs [108, 101, 97, 100])) then (qdvz.f k a0).bind fun t0 =>
 (qfjz.f k t0.1 t0.2).bind fun t1 =>
 some (t1.1, (t1.2, (a3, (a4, (a5, (a6, (a7, (a8, (a9, a10))))))))) else if (seq a2 (bs [108, 97, 115, 116])) then (qedz.f k a0).bind fun t0 =>
 (qfjz.f k t0.1 t0.2).bind fun t1 =>
 some (t1.1, (t1.2, (a3, (a4, (a5, (a6, (a7, (a8, (a9, a10))))))))) else if (seq a2 (bs [97, 116])) then gd (0 < (ln a10)) <| (qdyz.f k a0 (rd 0 a10 0) 1).bind fun t0 =>
 (qfjz.f k t0.1 t0.2).bind fun t1 =>
 some (t1.1, (t1.2, (a3, (a4, (a5, (a6, (a7, (a8, (a9, a10))))))))) else if (seq a2 (bs [115, 116, 97, 114, 116])) then (qduz.f k a1 a0).bind fun t0 =>
 (qhyz.f k t0.1 t0.2.1 t0.2.2).bind fun t1 =>
 some (t1.1, (t1.2, (a3, (a4, (a5, (a6, (a7, (a8, (a9, a10))))))))) else if (seq a2 (bs [109, 101, 101, 116])) then gd (0 < (ln a10)) <| (qbqz.f a0 a1 (rd 0 a10 0)).bind fun t0 =>
 if (!t0) then some ((bs []), (false, (a3, (a4, (a5, (a6, (a7, (a8, (a9, a10))))))))) else gd (1 < (ln a10)) <| (qbqz.f a0 a1 (rd 0 a10 1)).bind fun t1 =>
 if (!t1) then some ((bs []), (false, (a3, (a4, (a5, (a6, (a7, (a8, (a9, a10))))))))) else gd (0 < (ln a10)) <| ix (rd 0 a10 0) a0 <| gd (1 < (ln a10)) <| ix (rd 0 a10 1) a0 <| (qcez.f k a0 a1 a2 (rd (0, 0) a0 (rd 0 a10 0)).1 (rd (0, 0) a0 (rd 0 a10 0)).2 (rd (0, 0) a0 (rd 0 a10 1)).1 (rd (0, 0) a0 (rd 0 a10 1)).2).bind fun t2 =>
 some (t2.1, (t2.2, (a3, (a4, (a5, (a6, (a7, (a8, (a9, a10))))))))) else if (seq a2 (bs [119, 104, 101, 114, 101])) then gd (0 < (ln a10)) <| (qbqz.f a0 a1 (rd 0 a10 0)).bind fun t0 =>
 if (!t0) then some ((bs []), (false, (a3, (a4, (a5, (a6, (a7, (a8, (a9, a10))))))))) else gd (1 < (ln a10)) <| (qbqz.f a0 a1 (rd 0 a10 1)).bind fun t1 =>
 if (!t1) then some ((bs []), (false, (a3, (a4, (a5, (a6, (a7, (a8, (a9, a10))))))))) else gd (0 < (ln a10)) <| ix (rd 0 a10 0) a0 <| gd (1 < (ln a10)) <| ix (rd 0 a10 1) a0 <| (qcez.f k a0 a1 a2 (rd (0, 0) a0 (rd 0 a10 0)).1 (rd (0, 0) a0 (rd 0 a10 0)).2 (rd (0, 0) a0 (rd 0 a10 1)).1 (rd (0, 0) a0 (rd 0 a10 1)).2).bind fun t2 =>
 some (t2.1, (t2.2, (a3, (a4, (a5, (a6, (a7, (a8, (a9, a10))))))))) else if (seq a2 (bs [97, 114, 111, 117, 110, 100])) then gd (0 < (ln a10)) <| (qbqz.f a0 a1 (rd 0 a10 0)).bind fun t0 =>
 if (!t0) then some ((bs []), (false, (a3, (a4, (a5, (a6, (a7, (a8, (a9, a10))))))))) else gd (1 < (ln a10)) <| (qbqz.f a0 a1 (rd 0 a10 1)).bind fun t1 =>
 if (!t1) then some ((bs []), (false, (a3, (a4, (a5, (a6, (a7, (a8, (a9, a10))))))))) else gd (0 < (ln a10)) <| ix (rd 0 a10 0) a0 <| gd (1 < (ln a10)) <| ix (rd 0 a10 1) a0 <| (qcez.f k a0 a1 a2 (rd (0, 0) a0 (rd 0 a10 0)).1 (rd (0, 0) a0 (rd 0 a10 0)).2 (rd (0, 0) a0 (rd 0 a10 1)).1 (rd (0, 0) a0 (rd 0 a10 1)).2).bind fun t2 =>
 some (t2.1, (t2.2, (a3, (a4, (a5, (a6, (a7, (a8, (a9, a10))))))))) else if (seq a2 (bs [103, 97, 112])) then gd (0 < (ln a10)) <| (qbqz.f a0 a1 (rd 0 a10 0)).bind fun t0 =>
 if (!t0) then some ((bs []), (false, (a3, (a4, (a5, (a6, (a7, (a8, (a9, a10))))))))) else gd (1 < (ln a10)) <| (qbqz.f a0 a1 (rd 0 a10 1)).bind fun t1 =>
 if (!t1) then some ((bs []), (false, (a3, (a4, (a5, (a6, (a7, (a8, (a9, a10))))))))) else gd (0 < (ln a10)) <| ix (rd 0 a10 0) a0 <| gd (1 < (ln a10)) <| ix (rd 0 a10 1) a0 <| (qcez.f k a0 a1 a2 (rd (0, 0) a0 (rd 0 a10 0)).1 (rd (0, 0) a0 (rd 0 a10 0)).2 (rd (0, 0) a0 (rd 0 a10 1)).1 (rd (0, 0) a0 (rd 0 a10 1)).2).bind fun t2 =>
 some (t2.1, (t2.2, (a3, (a4, (a5, (a6, (a7, (a8, (a9, a10))))))))) else if (seq a2 (bs [112, 108, 97, 99, 101, 115])) then gd (0 < (ln a10)) <| (qbqz.f a0 a1 (rd 0 a10 0)).bind fun t0 =>
 if (!t0) then some ((bs []), (false, (a3, (a4, (a5, (a6, (a7, (a8, (a9, a10))))))))) else gd (1 < (ln a10)) <| (qbqz.f a0 a1 (rd 0 a10 1)).bind fun t1 =>
 if (!t1) then some ((bs []), (false, (a3, (a4, (a5, (a6, (a7, (a8, (a9, a10))))))))) else gd (0 < (ln a10)) <| ix (rd 0 a10 0) a0 <| gd (1 < (ln a10)) <| ix (rd 0 a10 1) a0 <| (qcez.f k a0 a1 a2 (rd (0, 0) a0 (rd 0 a10 0)).1 (rd (0, 0) a0 (rd 0 a10 0)).2 (rd (0, 0) a0 (rd 0 a10 1)).1 (rd (0, 0) a0 (rd 0 a10 1)).2).bind fun t2 =>
 some (t2.1, (t2.2, (a3, (a4, (a5, (a6, (a7, (a8, (a9, a10))))))))) else (qeez.f k a2 a3 a4 a5 a6 a7 a8 a9 a10).bind fun t0 =>
 some t0) r) : Ev (fun k => f k a0 a1 a2 a3 a4 a5 a6 a7 a8 a9 a10) r := evf (fun _ _ h => by rw [← qguz.k (dl h), ← qbqz.k (dl h)]; exact PI_at Cx (by kernel_rfl)) h
end qewz
namespace qckz
def f (k : Fu) (a0 : List (Int × Int)) (a1 : Int) (a2 : BA) (a3 : List (Int × Int)) (a4 a5 a6 a7 : Int) (a8 a9 : List (Int × Int)) (a10 : List Int) : Option (((List (Int × Int)) × Int) × (BA × (Bool × ((List (Int × Int)) × (Int × (Int × (Int × (Int × ((List (Int × Int)) × ((List (Int × Int)) × (List Int))))))))))) := PI Cx (k 0) 95 [va [.sl 74 (.pair i6 i6) a0, ci a1], vs a2, va [.sl 74 (.pair i6 i6) a3, ci a4, ci a5, ci a6, ci a7, .sl 88 (.pair i6 i6) a8, .sl 155 (.pair i6 i6) a9, .frow 3 i6 a10]]
theorem v {a0 : List (Int × Int)} {a1 : Int} {a2 : BA} {a3 : List (Int × Int)} {a4 a5 a6 a7 : Int} {a8 a9 : List (Int × Int)} {a10 : List Int} {r} (h : Ev (fun k => if (seq a2 (bs [119, 97, 108, 107, 101, 114, 115])) then (qgtz.f k a3 a1).bind fun t0 =>
 if (!t0) then some ((a3, a1), ((bs []), (false, (a3, (a4, (a5, (a6, (a7, (a8, (a9, a10)))))))))) else (qclz.f k a3).bind fun t1 =>
 some ((a3, a1), (t1.1, (t1.2, (a3, (a4, (a5, (a6, (a7, (a8, (a9, a10)))))))))) else if (seq a2 (bs [114, 105, 110, 103])) then gd (0 < (ln a10)) <| (qgtz.f k a0 (rd 0 a10 0)).bind fun t0 =>
 if (!t0) then some ((a0, (rd 0 a10 0)), ((bs []), (false, (a3, (a4, (a5, (a6, (a7, (a8, (a9, a10)))))))))) else (qclz.f k a0).bind fun t1 =>
 some ((a0, (rd 0 a10 0)), (t1.1, (t1.2, (a3, (a4, (a5, (a6, (a7, (a8, (a9, a10)))))))))) else if (seq a2 (bs [116, 117, 114, 110])) then gd (0 < (ln a10)) <| (qbqz.f a0 a1 (rd 0 a10 0)).bind fun t0 =>
 if (!t0) then some ((a0, a1), ((bs []), (false, (a3, (a4, (a5, (a6, (a7, (a8, (a9, a10)))))))))) else (qbfz.f a0).bind fun t1 =>
 gd (0 < (ln a10)) <| ix (rd 0 a10 0) t1 <| ix (rd 0 a10 0) t1 <| (qgtz.f k (List.set t1 (Int.toNat (rd 0 a10 0)) ((rd (0, 0) t1 (rd 0 a10 0)).1, (W ((rd (0, 0) t1 (rd 0 a10 0)).2 * (-1))))) a1).bind fun t2 =>
 if (!t2) then some (((List.set t1 (Int.toNat (rd 0 a10 0)) ((rd (0, 0) t1 (rd 0 a10 0)).1, (W ((rd (0, 0) t1 (rd 0 a10 0)).2 * (-1))))), a1), ((bs []), (false, (a3, (a4, (a5, (a6, (a7, (a8, (a9, a10)))))))))) else (qclz.f k (List.set t1 (Int.toNat (rd 0 a10 0)) ((rd (0, 0) t1 (rd 0 a10 0)).1, (W ((rd (0, 0) t1 (rd 0 a10 0)).2 * (-1)))))).bind fun t3 =>
 some (((List.set t1 (Int.toNat (rd 0 a10 0)) ((rd (0, 0) t1 (rd 0 a10 0)).1, (W ((rd (0, 0) t1 (rd 0 a10 0)).2 * (-1))))), a1), (t3.1, (t3.2, (a3, (a4, (a5, (a6, (a7, (a8, (a9, a10)))))))))) else if (seq a2 (bs [97, 100, 100])) then (qbez.f k [a0, a3]).bind fun t0 =>
 (qgtz.f k t0 a1).bind fun t1 =>
 if (!t1) then some ((t0, a1), ((bs []), (false, (a3, (a4, (a5, (a6, (a7, (a8, (a9, a10)))))))))) else (qclz.f k t0).bind fun t2 =>
 some ((t0, a1), (t2.1, (t2.2, (a3, (a4, (a5, (a6, (a7, (a8, (a9, a10)))))))))) else if (seq a2 (bs [100, 114, 111, 112])) then gd (0 < (ln a10)) <| (qbqz.f a0 a1 (rd 0 a10 0)).bind fun t0 =>
 if (!t0) then some ((a0, a1), ((bs []), (false, (a3, (a4, (a5, (a6, (a7, (a8, (a9, a10)))))))))) else (qbfz.f a0).bind fun t1 =>
 gd (0 < (ln a10)) <| gd (0 < (ln a10)) <| ix (rd 0 a10 0) t1 <| gd ((W ((rd 0 a10 0) + 1)) = ((rd 0 a10 0) + 1)) <| gd ((ln t1) ≤ 5000000000000) <| (qgtz.f k ((List.take (Int.toNat (rd 0 a10 0)) t1) ++ (List.drop (Int.toNat (W ((rd 0 a10 0) + 1))) t1)) a1).bind fun t2 =>
 if (!t2) then some ((((List.take (Int.toNat (rd 0 a10 0)) t1) ++ (List.drop (Int.toNat (W ((rd 0 a10 0) + 1))) t1)), a1), ((bs []), (false, (a3, (a4, (a5, (a6, (a7, (a8, (a9, a10)))))))))) else (qclz.f k ((List.take (Int.toNat (rd 0 a10 0)) t1) ++ (List.drop (Int.toNat (W ((rd 0 a10 0) + 1))) t1))).bind fun t3 =>
 some ((((List.take (Int.toNat (rd 0 a10 0)) t1) ++ (List.drop (Int.toNat (W ((rd 0 a10 0) + 1))) t1)), a1), (t3.1, (t3.2, (a3, (a4, (a5, (a6, (a7, (a8, (a9, a10)))))))))) else if (seq a2 (bs [115, 104, 111, 119])) then (qgtz.f k a0 a1).bind fun t0 =>
 if (!t0) then some ((a0, a1), ((bs []), (false, (a3, (a4, (a5, (a6, (a7, (a8, (a9, a10)))))))))) else (qclz.f k a0).bind fun t1 =>
 some ((a0, a1), (t1.1, (t1.2, (a3, (a4, (a5, (a6, (a7, (a8, (a9, a10)))))))))) else (qewz.f k a0 a1 a2 a3 a4 a5 a6 a7 a8 a9 a10).bind fun t0 =>
 some ((a0, a1), t0)) r) : Ev (fun k => f k a0 a1 a2 a3 a4 a5 a6 a7 a8 a9 a10) r := evf (fun _ _ h => by rw [← qbqz.k (dl h), ← qbfz.k (dl h)]; exact PI_at Cx (by kernel_rfl)) h
end qckz
namespace qerz
def f (k : Fu) (a0 : List (Int × Int)) (a1 : Int) (a2 : BA) : Option (((List (Int × Int)) × Int) × BA) := PI Cx (k 0) 48 [va [.sl 74 (.pair i6 i6) a0, ci a1], vs a2]
def l0 (k : Fu) (x0 : List BA) (x1 : BA) (x2 : List BA) (x3 x4 : Int) (x5 : List (Int × Int)) (x6 x7 : Int) (x8 : List (Int × Int)) (x9 x10 x11 x12 : Int) (x13 x14 : List (Int × Int)) (x15 : List Int) : Option (((List (Int × Int)) × Int) × BA) := runAt Cx (k 0) 48 [tt, tt, tt, tt, tt, ff, tt, tt] [k 1] ⟨[(2, vp 0 0), (4, vp 1000 0), (6, vl 9 .str x0), (7, vs x1), (9, vp 5000000 0), (35, vl 9 .str x2), (36, vi x3), (37, vi x4)], [(0, .box 24 [.sl 74 (.pair i6 i6) x5, ci x6]), (1000, .box 24 [.nilsl, ci x7]), (5000000, .box 118 [.sl 74 (.pair i6 i6) x8, ci x9, ci x10, ci x11, ci x12, .sl 88 (.pair i6 i6) x13, .sl 155 (.pair i6 i6) x14, .full 2000005000000007]), (2000005000000007, .row 3 i6 x15 .come)], []⟩
theorem v {a0 : List (Int × Int)} {a1 : Int} {a2 : BA} {r} (h : Ev (fun k => (qfbz.f a2 (bs [32])).bind fun t0 =>
 gd (0 < (ln t0)) <| (qfaz.f (rd (bs []) t0 0)).bind fun t1 =>
 if (!t1.2) then some ((a0, a1), (bs [119, 104, 97, 116])) else if ((sln t1.1) != (W ((ln t0) - 1))) then some ((a0, a1), (bs [119, 104, 97, 116])) else gd (1 ≤ (ln t0)) <| l0 k t0 t1.1 (List.drop 1 t0) (ln (List.drop 1 t0)) 0 a0 a1 0 [] 0 0 0 0 [] [] []) r) : Ev (fun k => f k a0 a1 a2) r := evf (fun _ _ h => by rw [← qfbz.k (dl h), ← qfaz.k (dl h)]; exact PI_at Cx (by kernel_rfl)) h
theorem v0 {x0 : List BA} {x1 : BA} {x2 : List BA} {x3 x4 : Int} {x5 : List (Int × Int)} {x6 x7 : Int} {x8 : List (Int × Int)} {x9 x10 x11 x12 : Int} {x13 x14 : List (Int × Int)} {x15 : List Int} {r} (h : Ev (fun k => if (iLt x4 x3) then ix x4 x2 <| gd (0 ≤ x4) <| gd (x4 < (sln x1)) <| (qbuz.f k x8 x9 x10 x11 x12 x13 x14 x15 (bat x1 x4) (rd (bs []) x2 x4)).bind fun t0 =>
 if (!t0.1) then some ((x5, x6), (bs [119, 104, 97, 116])) else l0 k x0 x1 x2 x3 (W (x4 + 1)) x5 x6 x7 t0.2.1 t0.2.2.1 t0.2.2.2.1 t0.2.2.2.2.1 t0.2.2.2.2.2.1 t0.2.2.2.2.2.2.1 t0.2.2.2.2.2.2.2.1 t0.2.2.2.2.2.2.2.2 else gd (0 < (ln x0)) <| (qckz.f k x5 x6 (rd (bs []) x0 0) x8 x9 x10 x11 x12 x13 x14 x15).bind fun t0 =>
 if (!t0.2.2.1) then some ((x5, x6), (bs [110, 111])) else some (t0.1, t0.2.1)) r) : Ev (fun k => l0 k x0 x1 x2 x3 x4 x5 x6 x7 x8 x9 x10 x11 x12 x13 x14 x15) r := evl [] 0 (fun _ _ _ => by kernel_rfl) h
end qerz
namespace qepz
def f (k : Fu) (a0 : List (Int × Int)) (a1 : Int) (a2 : BA) : Option (((List (Int × Int)) × Int) × (BA × Bool)) := PI Cx (k 0) 17 [va [.sl 74 (.pair i6 i6) a0, ci a1], vs a2]
theorem v {a0 : List (Int × Int)} {a1 : Int} {a2 : BA} {r} (h : Ev (fun k => (qgtz.f k a0 a1).bind fun t0 =>
 if (!t0) then some (([], 0), ((bs []), false)) else if (iGt (sln a2) 3000) then some (([], 0), ((bs []), false)) else (qcnz.f a2 (bs [10])).bind fun t1 =>
 if t1 then some (([], 0), ((bs []), false)) else (qerz.f k a0 a1 a2).bind fun t2 =>
 (qbfz.f t2.1.1).bind fun t3 =>
 some ((t3, t2.1.2), (t2.2, true))) r) : Ev (fun k => f k a0 a1 a2) r := evf (fun _ _ h => by rw [← qcnz.k (dl h), ← qbfz.k (dl h)]; exact PI_at Cx (by kernel_rfl)) h
end qepz
namespace qfgz
abbrev P := Int → Int → Int → Int → Option Bool
def f : P := fun a0 a1 a2 a3 => if (a0 != a2) then some false else if (a1 != a3) then some false else some true
theorem k {K : Nat} (h : 1 ≤ K) : (fun a0 a1 a2 a3 => PI Cx K 77 [va [ci a0, ci a1], va [ci a2, ci a3]] : P) = f := by
 obtain ⟨K, rfl⟩ := pos_of_le h
 funext a0 a1 a2 a3
 exact PI_at Cx (by kernel_rfl)
end qfgz
namespace qegz
def f (k : Fu) (a0 a1 : List (Int × Int)) : Option Bool := PI Cx (k 0) 41 [vl 74 (.pair i6 i6) a0, vl 74 (.pair i6 i6) a1]
def l0 (k : Fu) (x0 x1 : List (Int × Int)) (x2 : Int) : Option Bool := runAt Cx (k 0) 41 [tt, tt, ff, tt, tt] [k 1] ⟨[(0, vl 74 (.pair i6 i6) x0), (1, vl 74 (.pair i6 i6) x1), (5, vi x2)], [], []⟩
theorem v {a0 a1 : List (Int × Int)} {r} (h : Ev (fun k => if ((ln a0) != (ln a1)) then some false else l0 k a0 a1 0) r) : Ev (fun k => f k a0 a1) r := evf (fun _ _ _ => PI_at Cx (by kernel_rfl)) h
theorem v0 {x0 x1 : List (Int × Int)} {x2 : Int} {r} (h : Ev (fun k => if (iLt x2 (ln x0)) then ix x2 x0 <| ix x2 x1 <| (qfgz.f (rd (0, 0) x0 x2).1 (rd (0, 0) x0 x2).2 (rd (0, 0) x1 x2).1 (rd (0, 0) x1 x2).2).bind fun t0 =>
 if (!t0) then some false else l0 k x0 x1 (W (x2 + 1)) else some true) r) : Ev (fun k => l0 k x0 x1 x2) r := evl [] 0 (fun _ _ h => by rw [← qfgz.k (dl h)]; kernel_rfl) h
end qegz
namespace qgxz
def f (k : Fu) (a0 : List (Int × Int)) (a1 : Int) (a2 : List (Int × Int)) (a3 : Int) : Option Bool := PI Cx (k 0) 12 [va [.sl 74 (.pair i6 i6) a0, ci a1], va [.sl 74 (.pair i6 i6) a2, ci a3]]
theorem v {a0 : List (Int × Int)} {a1 : Int} {a2 : List (Int × Int)} {a3 : Int} {r} (h : Ev (fun k => (qegz.f k a0 a2).bind fun t0 =>
 if (!t0) then some false else if (a1 != a3) then some false else some true) r) : Ev (fun k => f k a0 a1 a2 a3) r := evf (fun _ _ _ => PI_at Cx (by kernel_rfl)) h
end qgxz
namespace qczz
def f (k : Fu) (a0 : List (Int × Int)) (a1 : Int) : Option (Int × (List (Int × Int))) := PI Cx (k 0) 42 [.sv (.one (.frow 74 (.pair i6 i6) a0)), vi a1]
def l0 (k : Fu) (x0 x1 : Int) (x2 : List (Int × Int)) : Option (Int × (List (Int × Int))) := runAt Cx (k 0) 42 [tt, ff, tt, tt] [k 1] ⟨[(0, vf 9000000000000001), (1, vi x0), (5, vi x1)], [(9000000000000001, .row 74 (.pair i6 i6) x2 .lent)], []⟩
theorem v {a0 : List (Int × Int)} {a1 : Int} {r} (h : Ev (fun k => l0 k a1 0 a0) r) : Ev (fun k => f k a0 a1) r := evf (fun _ _ _ => PI_at Cx (by kernel_rfl)) h
theorem v0 {x0 x1 : Int} {x2 : List (Int × Int)} {r} (h : Ev (fun k => if (iLt x1 (ln x2)) then ix x1 x2 <| ix x1 (List.set x2 (Int.toNat x1) (x0, (rd (0, 0) x2 x1).2)) <| l0 k (W ((W (x0 + 1)) + 1)) (W (x1 + 1)) (List.set (List.set x2 (Int.toNat x1) (x0, (rd (0, 0) x2 x1).2)) (Int.toNat x1) ((rd (0, 0) (List.set x2 (Int.toNat x1) (x0, (rd (0, 0) x2 x1).2)) x1).1, (W (x0 + 1)))) else some (x0, x2)) r) : Ev (fun k => l0 k x0 x1 x2) r := evl [] 0 (fun _ _ _ => by kernel_rfl) h
end qczz
namespace qfez
def f (k : Fu) (a0 : List (Int × Int)) (a1 a2 : Int) : Option (Int × (List (Int × Int))) := PI Cx (k 0) 13 [va [.frow 74 (.pair i6 i6) a0, ci a1], vi a2]
theorem v {a0 : List (Int × Int)} {a1 a2 : Int} {r} (h : Ev (fun k => (qczz.f k a0 a2).bind fun t0 =>
 some t0) r) : Ev (fun k => f k a0 a1 a2) r := evf (fun _ _ _ => PI_at Cx (by kernel_rfl)) h
end qfez
namespace qdbz
def f (k : Fu) (a0 : List (Int × Int)) (a1 : Int) : Option Int := PI Cx (k 0) 43 [vl 74 (.pair i6 i6) a0, vi a1]
def l0 (k : Fu) (x0 : List (Int × Int)) (x1 x2 : Int) : Option Int := runAt Cx (k 0) 43 [tt, ff, tt, tt] [k 1] ⟨[(0, vl 74 (.pair i6 i6) x0), (1, vi x1), (5, vi x2)], [], []⟩
theorem v {a0 : List (Int × Int)} {a1 : Int} {r} (h : Ev (fun k => l0 k a0 a1 0) r) : Ev (fun k => f k a0 a1) r := evf (fun _ _ _ => PI_at Cx (by kernel_rfl)) h
theorem v0 {x0 : List (Int × Int)} {x1 x2 : Int} {r} (h : Ev (fun k => if (iLt x2 (ln x0)) then ix x2 x0 <| if ((rd (0, 0) x0 x2).1 != x1) then some (-1) else ix x2 x0 <| if ((rd (0, 0) x0 x2).2 != (W (x1 + 1))) then some (-1) else l0 k x0 (W ((W (x1 + 1)) + 1)) (W (x2 + 1)) else some x1) r) : Ev (fun k => l0 k x0 x1 x2) r := evl [] 0 (fun _ _ _ => by kernel_rfl) h
end qdbz
namespace qeuz
def f (k : Fu) (a0 : List (Int × Int)) (a1 a2 : Int) : Option Int := PI Cx (k 0) 14 [va [.sl 74 (.pair i6 i6) a0, ci a1], vi a2]
theorem v {a0 : List (Int × Int)} {a1 a2 : Int} {r} (h : Ev (fun k => (qdbz.f k a0 a2).bind fun t0 =>
 if (iLt t0 0) then some (-1) else some t0) r) : Ev (fun k => f k a0 a1 a2) r := evf (fun _ _ _ => PI_at Cx (by kernel_rfl)) h
end qeuz
end
end Go.Proofs.YtdhkgmhdengnkaaGreatDoor.Dl
