import Derived.Test.YtlibgicponpecaaGreatDoorGuF1
namespace Go.Proofs.YtlibgicponpecaaGreatDoor.Gu
open Go Go.Proofs.YtlibgicponpecaaGreatDoorPi Go.RowKit
set_option maxRecDepth 100000
set_option linter.unusedVariables false
namespace spec_pzText
noncomputable def p (K : Nat) (a0 : List (Int × (Int × Int))) : Option ByteArray := PI Cx K 45 [.sv (.agg [.sl 48 (.pair (.int .i64) (.pair (.int .i64) (.int .i64))) a0])]
noncomputable def q0 (K m : Nat) (x0 : ByteArray) (x1 : List (Int × (Int × Int))) (x2 x3 : Int) : Option ByteArray := runAt Cx K 45 [true, true, false, true, true] [m] ⟨[(3, .sv (.one (.str x0))), (7, .sv (.one (.sl 48 (.pair (.int .i64) (.pair (.int .i64) (.int .i64))) x1))), (8, .sv (.one (.int .i64 x2))), (9, .sv (.one (.int .i64 x3)))], [], []⟩
noncomputable def b (L0 : ByteArray → List (Int × (Int × Int)) → Int → Int → Option ByteArray) (a0 : List (Int × (Int × Int))) : Option ByteArray :=
 L0 (bs []) a0 (dlen a0) 0
noncomputable def b0 (L0 : ByteArray → List (Int × (Int × Int)) → Int → Int → Option ByteArray) (g0 : Int → Option ByteArray) (g1 : Int → Option Int) (x0 : ByteArray) (x1 : List (Int × (Int × Int))) (x2 x3 : Int) : Option ByteArray :=
 if (decide (x3 < x2)) = true then (if 0 ≤ x3 then (if x3 < (dlen x1) then (if (decide (x3 > 0)) = true then (if ((ByteArray.size x0) + 1) ≤ maxLen then ((g0 (rd (0, (0, 0)) x1 x3).1).bind fun t0 =>
 if ((ByteArray.size t0) + 1) ≤ maxLen then ((g0 (rd (0, (0, 0)) x1 x3).2.1).bind fun t1 =>
 if ((ByteArray.size (t0 ++ (bs [46]))) + (ByteArray.size t1)) ≤ maxLen then (if ((ByteArray.size ((t0 ++ (bs [46])) ++ t1)) + 1) ≤ maxLen then (if ((ByteArray.size (x0 ++ (bs [44]))) + (ByteArray.size (((t0 ++ (bs [46])) ++ t1) ++ (bs [46])))) ≤ maxLen then (if (decide ((rd (0, (0, 0)) x1 x3).2.2 < 0)) = true then (if ((ByteArray.size ((x0 ++ (bs [44])) ++ (((t0 ++ (bs [46])) ++ t1) ++ (bs [46])))) + 1) ≤ maxLen then ((g1 (rd (0, (0, 0)) x1 x3).2.2).bind fun t2 =>
 (g0 t2).bind fun t3 =>
 if ((ByteArray.size (((x0 ++ (bs [44])) ++ (((t0 ++ (bs [46])) ++ t1) ++ (bs [46]))) ++ (bs [45]))) + (ByteArray.size t3)) ≤ maxLen then (L0 ((((x0 ++ (bs [44])) ++ (((t0 ++ (bs [46])) ++ t1) ++ (bs [46]))) ++ (bs [45])) ++ t3) x1 x2 (W (x3 + 1))) else (none)) else (none)) else ((g1 (rd (0, (0, 0)) x1 x3).2.2).bind fun t2 =>
 (g0 t2).bind fun t3 =>
 if ((ByteArray.size ((x0 ++ (bs [44])) ++ (((t0 ++ (bs [46])) ++ t1) ++ (bs [46])))) + (ByteArray.size t3)) ≤ maxLen then (L0 (((x0 ++ (bs [44])) ++ (((t0 ++ (bs [46])) ++ t1) ++ (bs [46]))) ++ t3) x1 x2 (W (x3 + 1))) else (none))) else (none)) else (none)) else (none)) else (none)) else (none)) else ((g0 (rd (0, (0, 0)) x1 x3).1).bind fun t0 =>
 if ((ByteArray.size t0) + 1) ≤ maxLen then ((g0 (rd (0, (0, 0)) x1 x3).2.1).bind fun t1 =>
 if ((ByteArray.size (t0 ++ (bs [46]))) + (ByteArray.size t1)) ≤ maxLen then (if ((ByteArray.size ((t0 ++ (bs [46])) ++ t1)) + 1) ≤ maxLen then (if ((ByteArray.size x0) + (ByteArray.size (((t0 ++ (bs [46])) ++ t1) ++ (bs [46])))) ≤ maxLen then (if (decide ((rd (0, (0, 0)) x1 x3).2.2 < 0)) = true then (if ((ByteArray.size (x0 ++ (((t0 ++ (bs [46])) ++ t1) ++ (bs [46])))) + 1) ≤ maxLen then ((g1 (rd (0, (0, 0)) x1 x3).2.2).bind fun t2 =>
 (g0 t2).bind fun t3 =>
 if ((ByteArray.size ((x0 ++ (((t0 ++ (bs [46])) ++ t1) ++ (bs [46]))) ++ (bs [45]))) + (ByteArray.size t3)) ≤ maxLen then (L0 (((x0 ++ (((t0 ++ (bs [46])) ++ t1) ++ (bs [46]))) ++ (bs [45])) ++ t3) x1 x2 (W (x3 + 1))) else (none)) else (none)) else ((g1 (rd (0, (0, 0)) x1 x3).2.2).bind fun t2 =>
 (g0 t2).bind fun t3 =>
 if ((ByteArray.size (x0 ++ (((t0 ++ (bs [46])) ++ t1) ++ (bs [46])))) + (ByteArray.size t3)) ≤ maxLen then (L0 ((x0 ++ (((t0 ++ (bs [46])) ++ t1) ++ (bs [46]))) ++ t3) x1 x2 (W (x3 + 1))) else (none))) else (none)) else (none)) else (none)) else (none))) else (none)) else (none)) else (some x0)
noncomputable def l0 : Nat → ByteArray → List (Int × (Int × Int)) → Int → Int → Option ByteArray
 | 0, _, _, _, _ => none
 | k + 1, x0, x1, x2, x3 => b0 (l0 k) (spec_l1Num.f k) spec_l1Abs.f x0 x1 x2 x3
noncomputable def f (k : Nat) (a0 : List (Int × (Int × Int))) : Option ByteArray := b (l0 k) a0
theorem e (K : Nat) (a0 : List (Int × (Int × Int))) : p (K + 1) a0 = b (q0 K K) a0 := PI_at Cx (by kernel_rfl)
theorem e0 (K m : Nat) (x0 : ByteArray) (x1 : List (Int × (Int × Int))) (x2 x3 : Int) : q0 K (m + 1) x0 x1 x2 x3 = b0 (q0 K m) (spec_l1Num.p K) (spec_l1Abs.p K) x0 x1 x2 x3 := by kernel_rfl
theorem kl (n : Nat) : ∀ K, n + 2 ≤ K → (∀ m, n ≤ m → ∀ (x0 : ByteArray) (x1 : List (Int × (Int × Int))) (x2 x3 : Int), Le (l0 n x0 x1 x2 x3) (q0 K m x0 x1 x2 x3)) := by
 induction n with
 | zero => exact fun K _ => fun _ _ _ _ _ _ => Le.none
 | succ n ih =>
  intro K hK
  have ih := ih K (by omega)
  intro m hm x0 x1 x2 x3
  obtain ⟨m, rfl⟩ := pos_of_le hm
  rw [e0]
  show Le (b0 (l0 n) (spec_l1Num.f n) spec_l1Abs.f x0 x1 x2 x3) _
  unfold b0
  repeat' first | with_reducible apply Le.bind | with_reducible apply Le.ite | with_reducible exact Le.rfl | with_reducible refine ih _ ?_ _ _ _ _ | with_reducible refine spec_l1Num.k ?_ _ | with_reducible refine spec_l1Abs.k ?_ _ | with_reducible intro _ | omega
theorem k {n K : Nat} (h : n + 3 ≤ K) (a0 : List (Int × (Int × Int))) : Le (f n a0) (p K a0) := by
 obtain ⟨K, rfl⟩ := pos_of_le (show 0 + 1 ≤ K by omega)
 have kl := kl n K (by omega)
 rw [e]
 unfold f b
 repeat' first | with_reducible apply Le.bind | with_reducible apply Le.ite | with_reducible exact Le.rfl | with_reducible refine kl _ ?_ _ _ _ _ | with_reducible intro _ | omega
end spec_pzText
namespace spec_PuzzleText
noncomputable def p (K : Nat) (a0 : List (Int × (Int × Int))) : Option (ByteArray × Bool) := PI Cx K 22 [.sv (.agg [.sl 48 (.pair (.int .i64) (.pair (.int .i64) (.int .i64))) a0])]
noncomputable def b (g0 : List (Int × (Int × Int)) → Option Bool) (g1 : List (Int × (Int × Int)) → Option ByteArray) (a0 : List (Int × (Int × Int))) : Option (ByteArray × Bool) :=
 (g0 a0).bind fun t0 =>
 if (!t0) = true then (some ((bs []), false)) else ((g1 a0).bind fun t1 =>
 some (t1, true))
noncomputable def f (k : Nat) (a0 : List (Int × (Int × Int))) : Option (ByteArray × Bool) := b (spec_pzGood.f k) (spec_pzText.f k) a0
theorem e (K : Nat) (a0 : List (Int × (Int × Int))) : p (K + 1) a0 = b (spec_pzGood.p K) (spec_pzText.p K) a0 := PI_at Cx (by kernel_rfl)
theorem k {n K : Nat} (h : n + 4 ≤ K) (a0 : List (Int × (Int × Int))) : Le (f n a0) (p K a0) := by
 obtain ⟨K, rfl⟩ := pos_of_le (show 0 + 1 ≤ K by omega)
 rw [e]
 unfold f b
 repeat' first | with_reducible apply Le.bind | with_reducible apply Le.ite | with_reducible exact Le.rfl | with_reducible refine spec_pzGood.k ?_ _ | with_reducible refine spec_pzText.k ?_ _ | with_reducible intro _ | omega
end spec_PuzzleText
namespace laws_qSnails
noncomputable def p (K : Nat) (a0 a1 : List (Int × Int)) : Option Bool := PI Cx K 23 [.sv (.one (.sl 31 (.pair (.int .i64) (.int .i64)) a0)), .sv (.one (.sl 31 (.pair (.int .i64) (.int .i64)) a1))]
noncomputable def q0 (K m : Nat) (x0 x1 : List (Int × Int)) (x2 x3 : Int) : Option Bool := runAt Cx K 23 [true, true, false, true, true] [m] ⟨[(0, .sv (.one (.sl 31 (.pair (.int .i64) (.int .i64)) x0))), (1, .sv (.one (.sl 31 (.pair (.int .i64) (.int .i64)) x1))), (12, .sv (.one (.int .i64 x2))), (13, .sv (.one (.int .i64 x3)))], [], []⟩
noncomputable def b (L0 : List (Int × Int) → List (Int × Int) → Int → Int → Option Bool) (a0 a1 : List (Int × Int)) : Option Bool :=
 if ((dlen a0) != (dlen a1)) = true then (some false) else (L0 a0 a1 (dlen a0) 0)
noncomputable def b0 (L0 : List (Int × Int) → List (Int × Int) → Int → Int → Option Bool) (x0 x1 : List (Int × Int)) (x2 x3 : Int) : Option Bool :=
 if (decide (x3 < x2)) = true then (if 0 ≤ x3 then (if x3 < (dlen x0) then (if 0 ≤ x3 then (if x3 < (dlen x1) then (if (!(((rd (0, 0) x0 x3).1 == (rd (0, 0) x1 x3).1) && ((rd (0, 0) x0 x3).2 == (rd (0, 0) x1 x3).2))) = true then (some false) else (L0 x0 x1 x2 (W (x3 + 1)))) else (none)) else (none)) else (none)) else (none)) else (some true)
noncomputable def l0 : Nat → List (Int × Int) → List (Int × Int) → Int → Int → Option Bool
 | 0, _, _, _, _ => none
 | k + 1, x0, x1, x2, x3 => b0 (l0 k) x0 x1 x2 x3
noncomputable def f (k : Nat) (a0 a1 : List (Int × Int)) : Option Bool := b (l0 k) a0 a1
theorem e (K : Nat) (a0 a1 : List (Int × Int)) : p (K + 1) a0 a1 = b (q0 K K) a0 a1 := PI_at Cx (by kernel_rfl)
theorem e0 (K m : Nat) (x0 x1 : List (Int × Int)) (x2 x3 : Int) : q0 K (m + 1) x0 x1 x2 x3 = b0 (q0 K m) x0 x1 x2 x3 := by kernel_rfl
theorem kl (n : Nat) : ∀ K, n + 0 ≤ K → (∀ m, n ≤ m → ∀ (x0 x1 : List (Int × Int)) (x2 x3 : Int), Le (l0 n x0 x1 x2 x3) (q0 K m x0 x1 x2 x3)) := by
 induction n with
 | zero => exact fun K _ => fun _ _ _ _ _ _ => Le.none
 | succ n ih =>
  intro K hK
  have ih := ih K (by omega)
  intro m hm x0 x1 x2 x3
  obtain ⟨m, rfl⟩ := pos_of_le hm
  rw [e0]
  show Le (b0 (l0 n) x0 x1 x2 x3) _
  unfold b0
  repeat' first | with_reducible apply Le.bind | with_reducible apply Le.ite | with_reducible exact Le.rfl | with_reducible refine ih _ ?_ _ _ _ _ | with_reducible intro _ | omega
theorem k {n K : Nat} (h : n + 1 ≤ K) (a0 a1 : List (Int × Int)) : Le (f n a0 a1) (p K a0 a1) := by
 obtain ⟨K, rfl⟩ := pos_of_le (show 0 + 1 ≤ K by omega)
 have kl := kl n K (by omega)
 rw [e]
 unfold f b
 repeat' first | with_reducible apply Le.bind | with_reducible apply Le.ite | with_reducible exact Le.rfl | with_reducible refine kl _ ?_ _ _ _ _ | with_reducible intro _ | omega
end laws_qSnails
namespace laws_qSame
noncomputable def p (K : Nat) (a0 a1 : List Int) : Option Bool := PI Cx K 24 [.sv (.one (.sl 3 (.int .i64) a0)), .sv (.one (.sl 3 (.int .i64) a1))]
noncomputable def q0 (K m : Nat) (x0 x1 : List Int) (x2 x3 : Int) : Option Bool := runAt Cx K 24 [true, true, false, true, true] [m] ⟨[(0, .sv (.one (.sl 3 (.int .i64) x0))), (1, .sv (.one (.sl 3 (.int .i64) x1))), (12, .sv (.one (.int .i64 x2))), (13, .sv (.one (.int .i64 x3)))], [], []⟩
noncomputable def b (L0 : List Int → List Int → Int → Int → Option Bool) (a0 a1 : List Int) : Option Bool :=
 if ((dlen a0) != (dlen a1)) = true then (some false) else (L0 a0 a1 (dlen a0) 0)
noncomputable def b0 (L0 : List Int → List Int → Int → Int → Option Bool) (x0 x1 : List Int) (x2 x3 : Int) : Option Bool :=
 if (decide (x3 < x2)) = true then (if 0 ≤ x3 then (if x3 < (dlen x0) then (if 0 ≤ x3 then (if x3 < (dlen x1) then (if ((rd 0 x0 x3) != (rd 0 x1 x3)) = true then (some false) else (L0 x0 x1 x2 (W (x3 + 1)))) else (none)) else (none)) else (none)) else (none)) else (some true)
noncomputable def l0 : Nat → List Int → List Int → Int → Int → Option Bool
 | 0, _, _, _, _ => none
 | k + 1, x0, x1, x2, x3 => b0 (l0 k) x0 x1 x2 x3
noncomputable def f (k : Nat) (a0 a1 : List Int) : Option Bool := b (l0 k) a0 a1
theorem e (K : Nat) (a0 a1 : List Int) : p (K + 1) a0 a1 = b (q0 K K) a0 a1 := PI_at Cx (by kernel_rfl)
theorem e0 (K m : Nat) (x0 x1 : List Int) (x2 x3 : Int) : q0 K (m + 1) x0 x1 x2 x3 = b0 (q0 K m) x0 x1 x2 x3 := by kernel_rfl
theorem kl (n : Nat) : ∀ K, n + 0 ≤ K → (∀ m, n ≤ m → ∀ (x0 x1 : List Int) (x2 x3 : Int), Le (l0 n x0 x1 x2 x3) (q0 K m x0 x1 x2 x3)) := by
 induction n with
 | zero => exact fun K _ => fun _ _ _ _ _ _ => Le.none
 | succ n ih =>
  intro K hK
  have ih := ih K (by omega)
  intro m hm x0 x1 x2 x3
  obtain ⟨m, rfl⟩ := pos_of_le hm
  rw [e0]
  show Le (b0 (l0 n) x0 x1 x2 x3) _
  unfold b0
  repeat' first | with_reducible apply Le.bind | with_reducible apply Le.ite | with_reducible exact Le.rfl | with_reducible refine ih _ ?_ _ _ _ _ | with_reducible intro _ | omega
theorem k {n K : Nat} (h : n + 1 ≤ K) (a0 a1 : List Int) : Le (f n a0 a1) (p K a0 a1) := by
 obtain ⟨K, rfl⟩ := pos_of_le (show 0 + 1 ≤ K by omega)
 have kl := kl n K (by omega)
 rw [e]
 unfold f b
 repeat' first | with_reducible apply Le.bind | with_reducible apply Le.ite | with_reducible exact Le.rfl | with_reducible refine kl _ ?_ _ _ _ _ | with_reducible intro _ | omega
end laws_qSame
namespace spec_IsPuzzle
noncomputable def p (K : Nat) (a0 : List (Int × (Int × Int))) : Option Bool := PI Cx K 26 [.sv (.agg [.sl 48 (.pair (.int .i64) (.pair (.int .i64) (.int .i64))) a0])]
noncomputable def b (g0 : List (Int × (Int × Int)) → Option Bool) (a0 : List (Int × (Int × Int))) : Option Bool :=
 (g0 a0).bind fun t0 =>
 some t0
noncomputable def f (k : Nat) (a0 : List (Int × (Int × Int))) : Option Bool := b (spec_pzGood.f k) a0
theorem e (K : Nat) (a0 : List (Int × (Int × Int))) : p (K + 1) a0 = b (spec_pzGood.p K) a0 := PI_at Cx (by kernel_rfl)
theorem k {n K : Nat} (h : n + 4 ≤ K) (a0 : List (Int × (Int × Int))) : Le (f n a0) (p K a0) := by
 obtain ⟨K, rfl⟩ := pos_of_le (show 0 + 1 ≤ K by omega)
 rw [e]
 unfold f b
 repeat' first | with_reducible apply Le.bind | with_reducible apply Le.ite | with_reducible exact Le.rfl | with_reducible refine spec_pzGood.k ?_ _ | with_reducible intro _ | omega
end spec_IsPuzzle
namespace spec_l1Cur_spoilt
noncomputable def p (K : Nat) (a0 : List Int) (a1 a2 : Int) (a3 a4 : ByteArray) : Option (ByteArray × ((List Int) × (Int × Int))) := PI Cx K 58 [.sv (.agg [.sl 5 (.int .u8) a0, .int .i64 a1, .int .u64 a2]), .sv (.one (.str a3)), .sv (.one (.str a4))]
noncomputable def q0 (K m : Nat) (x0 x1 : ByteArray) (x2 : Int) (x3 : List Int) (x4 x5 : Int) : Option (ByteArray × ((List Int) × (Int × Int))) := runAt Cx K 58 [true, false, true, true] [m] ⟨[(0, .sv (.one (.ptr 9000000000000000 0))), (1, .sv (.one (.str x0))), (2, .sv (.one (.str x1))), (7, .sv (.one (.int .i64 x2)))], [(9000000000000000, .box 76 [.sl 5 (.int .u8) x3, .int .i64 x4, .int .u64 x5])], []⟩
noncomputable def b (L0 : ByteArray → ByteArray → Int → List Int → Int → Int → Option (ByteArray × ((List Int) × (Int × Int)))) (g0 : List Int → Int → Int → Int → Option (Int × ((List Int) × (Int × Int)))) (a0 : List Int) (a1 a2 : Int) (a3 a4 : ByteArray) : Option (ByteArray × ((List Int) × (Int × Int))) :=
 (g0 a0 a1 a2 2).bind fun t0 =>
 L0 a3 a4 (W (1 + t0.1)) t0.2.1 t0.2.2.1 t0.2.2.2
noncomputable def b0 (L0 : ByteArray → ByteArray → Int → List Int → Int → Int → Option (ByteArray × ((List Int) × (Int × Int)))) (g0 : List Int → Int → Int → Int → Option (Int × ((List Int) × (Int × Int)))) (x0 x1 : ByteArray) (x2 : Int) (x3 : List Int) (x4 x5 : Int) : Option (ByteArray × ((List Int) × (Int × Int))) :=
 if (decide (x2 > 0)) = true then (if (decide ((slen x0) > 0)) = true then ((g0 x3 x4 x5 (slen x0)).bind fun t0 =>
 (g0 t0.2.1 t0.2.2.1 t0.2.2.2 (slen x1)).bind fun t1 =>
 if 0 ≤ t1.1 then (if t1.1 < (slen x1) then ((g0 t1.2.1 t1.2.2.1 t1.2.2.2 3).bind fun t2 =>
 if (t2.1 == 0) = true then (if 0 ≤ t0.1 then (if t0.1 ≤ (slen x0) then (if ((ByteArray.size (ByteArray.extract x0 0 (Int.toNat t0.1))) + (ByteArray.size (bytesOf [(bat x1 t1.1)]))) ≤ maxLen then (if 0 ≤ t0.1 then (if t0.1 ≤ (slen x0) then (if ((ByteArray.size ((ByteArray.extract x0 0 (Int.toNat t0.1)) ++ (bytesOf [(bat x1 t1.1)]))) + (ByteArray.size (ByteArray.extract x0 (Int.toNat t0.1) (Int.toNat (slen x0))))) ≤ maxLen then (L0 (((ByteArray.extract x0 0 (Int.toNat t0.1)) ++ (bytesOf [(bat x1 t1.1)])) ++ (ByteArray.extract x0 (Int.toNat t0.1) (Int.toNat (slen x0)))) x1 (W (x2 - 1)) t2.2.1 t2.2.2.1 t2.2.2.2) else (none)) else (none)) else (none)) else (none)) else (none)) else (none)) else (if (t2.1 == 1) = true then (if 0 ≤ t0.1 then (if t0.1 ≤ (slen x0) then (if ((ByteArray.size (ByteArray.extract x0 0 (Int.toNat t0.1))) + (ByteArray.size (bytesOf [(bat x1 t1.1)]))) ≤ maxLen then (if 0 ≤ (W (t0.1 + 1)) then (if (W (t0.1 + 1)) ≤ (slen x0) then (if ((ByteArray.size ((ByteArray.extract x0 0 (Int.toNat t0.1)) ++ (bytesOf [(bat x1 t1.1)]))) + (ByteArray.size (ByteArray.extract x0 (Int.toNat (W (t0.1 + 1))) (Int.toNat (slen x0))))) ≤ maxLen then (L0 (((ByteArray.extract x0 0 (Int.toNat t0.1)) ++ (bytesOf [(bat x1 t1.1)])) ++ (ByteArray.extract x0 (Int.toNat (W (t0.1 + 1))) (Int.toNat (slen x0)))) x1 (W (x2 - 1)) t2.2.1 t2.2.2.1 t2.2.2.2) else (none)) else (none)) else (none)) else (none)) else (none)) else (none)) else (if 0 ≤ t0.1 then (if t0.1 ≤ (slen x0) then (if 0 ≤ (W (t0.1 + 1)) then (if (W (t0.1 + 1)) ≤ (slen x0) then (if ((ByteArray.size (ByteArray.extract x0 0 (Int.toNat t0.1))) + (ByteArray.size (ByteArray.extract x0 (Int.toNat (W (t0.1 + 1))) (Int.toNat (slen x0))))) ≤ maxLen then (L0 ((ByteArray.extract x0 0 (Int.toNat t0.1)) ++ (ByteArray.extract x0 (Int.toNat (W (t0.1 + 1))) (Int.toNat (slen x0)))) x1 (W (x2 - 1)) t2.2.1 t2.2.2.1 t2.2.2.2) else (none)) else (none)) else (none)) else (none)) else (none)))) else (none)) else (none)) else (some (x0, (x3, (x4, x5))))) else (some (x0, (x3, (x4, x5))))
noncomputable def l0 : Nat → ByteArray → ByteArray → Int → List Int → Int → Int → Option (ByteArray × ((List Int) × (Int × Int)))
 | 0, _, _, _, _, _, _ => none
 | k + 1, x0, x1, x2, x3, x4, x5 => b0 (l0 k) spec_l1Cur_pick.f x0 x1 x2 x3 x4 x5
noncomputable def f (k : Nat) (a0 : List Int) (a1 a2 : Int) (a3 a4 : ByteArray) : Option (ByteArray × ((List Int) × (Int × Int))) := b (l0 k) spec_l1Cur_pick.f a0 a1 a2 a3 a4
theorem e (K : Nat) (a0 : List Int) (a1 a2 : Int) (a3 a4 : ByteArray) : p (K + 1) a0 a1 a2 a3 a4 = b (q0 K K) (spec_l1Cur_pick.p K) a0 a1 a2 a3 a4 := PI_at Cx (by kernel_rfl)
theorem e0 (K m : Nat) (x0 x1 : ByteArray) (x2 : Int) (x3 : List Int) (x4 x5 : Int) : q0 K (m + 1) x0 x1 x2 x3 x4 x5 = b0 (q0 K m) (spec_l1Cur_pick.p K) x0 x1 x2 x3 x4 x5 := by kernel_rfl
theorem kl (n : Nat) : ∀ K, n + 2 ≤ K → (∀ m, n ≤ m → ∀ (x0 x1 : ByteArray) (x2 : Int) (x3 : List Int) (x4 x5 : Int), Le (l0 n x0 x1 x2 x3 x4 x5) (q0 K m x0 x1 x2 x3 x4 x5)) := by
 induction n with
 | zero => exact fun K _ => fun _ _ _ _ _ _ _ _ => Le.none
 | succ n ih =>
  intro K hK
  have ih := ih K (by omega)
  intro m hm x0 x1 x2 x3 x4 x5
  obtain ⟨m, rfl⟩ := pos_of_le hm
  rw [e0]
  show Le (b0 (l0 n) spec_l1Cur_pick.f x0 x1 x2 x3 x4 x5) _
  unfold b0
  repeat' first | with_reducible apply Le.bind | with_reducible apply Le.ite | with_reducible exact Le.rfl | with_reducible refine ih _ ?_ _ _ _ _ _ _ | with_reducible refine spec_l1Cur_pick.k ?_ _ _ _ _ | with_reducible intro _ | omega
theorem k {n K : Nat} (h : n + 3 ≤ K) (a0 : List Int) (a1 a2 : Int) (a3 a4 : ByteArray) : Le (f n a0 a1 a2 a3 a4) (p K a0 a1 a2 a3 a4) := by
 obtain ⟨K, rfl⟩ := pos_of_le (show 0 + 1 ≤ K by omega)
 have kl := kl n K (by omega)
 rw [e]
 unfold f b
 repeat' first | with_reducible apply Le.bind | with_reducible apply Le.ite | with_reducible exact Le.rfl | with_reducible refine kl _ ?_ _ _ _ _ _ _ | with_reducible refine spec_l1Cur_pick.k ?_ _ _ _ _ | with_reducible intro _ | omega
end spec_l1Cur_spoilt
namespace spec_DrawParsePuzzle
noncomputable def p (K : Nat) (a0 : List Int) : Option ByteArray := PI Cx K 36 [.sv (.one (.sl 5 (.int .u8) a0))]
noncomputable def b (g0 : List Int → Int → Int → Int → Option ((List (Int × (Int × Int))) × ((List Int) × (Int × Int)))) (g1 : List (Int × (Int × Int)) → Option ByteArray) (g2 : List Int → Int → Int → Int → Option (Bool × ((List Int) × (Int × Int)))) (g3 : List Int → Int → Int → ByteArray → ByteArray → Option (ByteArray × ((List Int) × (Int × Int)))) (a0 : List Int) : Option ByteArray :=
 (g0 a0 0 0 4).bind fun t0 =>
 (g1 t0.1).bind fun t1 =>
 (g2 t0.2.1 t0.2.2.1 t0.2.2.2 3).bind fun t2 =>
 if t2.1 = true then ((g3 t2.2.1 t2.2.2.1 t2.2.2.2 t1 (bs [48, 49, 50, 51, 52, 53, 54, 46, 44, 45])).bind fun t3 =>
 some t3.1) else (some t1)
noncomputable def f (k : Nat) (a0 : List Int) : Option ByteArray := b (spec_l1Cur_surePuzzle.f k) (spec_pzText.f k) spec_l1Cur_one.f (spec_l1Cur_spoilt.f k) a0
theorem e (K : Nat) (a0 : List Int) : p (K + 1) a0 = b (spec_l1Cur_surePuzzle.p K) (spec_pzText.p K) (spec_l1Cur_one.p K) (spec_l1Cur_spoilt.p K) a0 := PI_at Cx (by kernel_rfl)
theorem k {n K : Nat} (h : n + 6 ≤ K) (a0 : List Int) : Le (f n a0) (p K a0) := by
 obtain ⟨K, rfl⟩ := pos_of_le (show 0 + 1 ≤ K by omega)
 rw [e]
 unfold f b
 repeat' first | with_reducible apply Le.bind | with_reducible apply Le.ite | with_reducible exact Le.rfl | with_reducible refine spec_l1Cur_surePuzzle.k ?_ _ _ _ _ | with_reducible refine spec_pzText.k ?_ _ | with_reducible refine spec_l1Cur_one.k ?_ _ _ _ _ | with_reducible refine spec_l1Cur_spoilt.k ?_ _ _ _ _ _ | with_reducible intro _ | omega
end spec_DrawParsePuzzle
namespace strings_Split
noncomputable def p (K : Nat) (a0 a1 : ByteArray) : Option (List ByteArray) := PI Cx K 52 [.sv (.one (.str a0)), .sv (.one (.str a1))]
noncomputable def f (a0 a1 : ByteArray) : Option (List ByteArray) := handSplit a0 a1
theorem e (K : Nat) (a0 a1 : ByteArray) : p (K + 1) a0 a1 = f a0 a1 := PI_at Cx (by kernel_rfl)
theorem k {K : Nat} (h : 1 ≤ K) (a0 a1 : ByteArray) : Le (f a0 a1) (p K a0 a1) := by
 obtain ⟨K, rfl⟩ := pos_of_le h
 rw [e]
 exact Le.rfl
end strings_Split
namespace impl_readNumber
noncomputable def p (K : Nat) (a0 : ByteArray) : Option (Int × Bool) := PI Cx K 73 [.sv (.one (.str a0))]
noncomputable def f (a0 : ByteArray) : Option (Int × Bool) := handNumber a0
theorem e (K : Nat) (a0 : ByteArray) : p (K + 1) a0 = f a0 := PI_at Cx (by kernel_rfl)
theorem k {K : Nat} (h : 1 ≤ K) (a0 : ByteArray) : Le (f a0) (p K a0) := by
 obtain ⟨K, rfl⟩ := pos_of_le h
 rw [e]
 exact Le.rfl
end impl_readNumber
namespace impl_readNumbers
noncomputable def p (K : Nat) (a0 a1 : ByteArray) : Option ((List Int) × Bool) := PI Cx K 53 [.sv (.one (.str a0)), .sv (.one (.str a1))]
noncomputable def q0 (K m : Nat) (x0 : List ByteArray) (x1 x2 : Int) (x3 : List Int) : Option ((List Int) × Bool) := runAt Cx K 53 [true, true, false, true, true] [m] ⟨[(6, .sv (.one (.full 1000000006000))), (13, .sv (.one (.sl 9 (.str) x0))), (14, .sv (.one (.int .i64 x1))), (15, .sv (.one (.int .i64 x2)))], [(1000000006000, .row 3 (.int .i64) x3 .own)], []⟩
noncomputable def b (L0 : List ByteArray → Int → Int → List Int → Option ((List Int) × Bool)) (g0 : ByteArray → ByteArray → Option (List ByteArray)) (a0 a1 : ByteArray) : Option ((List Int) × Bool) :=
 (g0 a0 a1).bind fun t0 =>
 L0 t0 (dlen t0) 0 ([] : List Int)
noncomputable def b0 (L0 : List ByteArray → Int → Int → List Int → Option ((List Int) × Bool)) (g1 : ByteArray → Option (Int × Bool)) (x0 : List ByteArray) (x1 x2 : Int) (x3 : List Int) : Option ((List Int) × Bool) :=
 if (decide (x2 < x1)) = true then (if 0 ≤ x2 then (if x2 < (dlen x0) then ((g1 (rd (bs []) x0 x2)).bind fun t0 =>
 if (!t0.2) = true then (some (([] : List Int), false)) else (if ((dlenN x3) + 1) ≤ 17592186044416 then (L0 x0 x1 (W (x2 + 1)) (x3 ++ [t0.1])) else (none))) else (none)) else (none)) else (some (x3, true))
noncomputable def l0 : Nat → List ByteArray → Int → Int → List Int → Option ((List Int) × Bool)
 | 0, _, _, _, _ => none
 | k + 1, x0, x1, x2, x3 => b0 (l0 k) impl_readNumber.f x0 x1 x2 x3
noncomputable def f (k : Nat) (a0 a1 : ByteArray) : Option ((List Int) × Bool) := b (l0 k) strings_Split.f a0 a1
theorem e (K : Nat) (a0 a1 : ByteArray) : p (K + 1) a0 a1 = b (q0 K K) (strings_Split.p K) a0 a1 := PI_at Cx (by kernel_rfl)
theorem e0 (K m : Nat) (x0 : List ByteArray) (x1 x2 : Int) (x3 : List Int) : q0 K (m + 1) x0 x1 x2 x3 = b0 (q0 K m) (impl_readNumber.p K) x0 x1 x2 x3 := by kernel_rfl
theorem kl (n : Nat) : ∀ K, n + 1 ≤ K → (∀ m, n ≤ m → ∀ (x0 : List ByteArray) (x1 x2 : Int) (x3 : List Int), Le (l0 n x0 x1 x2 x3) (q0 K m x0 x1 x2 x3)) := by
 induction n with
 | zero => exact fun K _ => fun _ _ _ _ _ _ => Le.none
 | succ n ih =>
  intro K hK
  have ih := ih K (by omega)
  intro m hm x0 x1 x2 x3
  obtain ⟨m, rfl⟩ := pos_of_le hm
  rw [e0]
  show Le (b0 (l0 n) impl_readNumber.f x0 x1 x2 x3) _
  unfold b0
  repeat' first | with_reducible apply Le.bind | with_reducible apply Le.ite | with_reducible exact Le.rfl | with_reducible refine ih _ ?_ _ _ _ _ | with_reducible refine impl_readNumber.k ?_ _ | with_reducible intro _ | omega
theorem k {n K : Nat} (h : n + 2 ≤ K) (a0 a1 : ByteArray) : Le (f n a0 a1) (p K a0 a1) := by
 obtain ⟨K, rfl⟩ := pos_of_le (show 0 + 1 ≤ K by omega)
 have kl := kl n K (by omega)
 rw [e]
 unfold f b
 repeat' first | with_reducible apply Le.bind | with_reducible apply Le.ite | with_reducible exact Le.rfl | with_reducible refine kl _ ?_ _ _ _ _ | with_reducible refine strings_Split.k ?_ _ _ | with_reducible intro _ | omega
end impl_readNumbers
namespace impl_ParsePuzzle
noncomputable def p (K : Nat) (a0 : ByteArray) : Option ((List (Int × (Int × Int))) × Bool) := PI Cx K 31 [.sv (.one (.str a0))]
noncomputable def q0 (K m : Nat) (x0 : List ByteArray) (x1 x2 : Int) (x3 : List (Int × (Int × Int))) : Option ((List (Int × (Int × Int))) × Bool) := runAt Cx K 31 [true, true, true, false, true, true] [m] ⟨[(2, .sv (.one (.ptr 0 0))), (4, .sv (.one (.ptr 1000000 0))), (13, .sv (.one (.sl 9 (.str) x0))), (14, .sv (.one (.int .i64 x1))), (15, .sv (.one (.int .i64 x2)))], [(0, .box 24 [.nilsl]), (1000000, .box 24 [.full 2000001000000000]), (2000001000000000, .row 48 (.pair (.int .i64) (.pair (.int .i64) (.int .i64))) x3 .own)], []⟩
noncomputable def b (L0 : List ByteArray → Int → Int → List (Int × (Int × Int)) → Option ((List (Int × (Int × Int))) × Bool)) (g0 : ByteArray → ByteArray → Option (List ByteArray)) (a0 : ByteArray) : Option ((List (Int × (Int × Int))) × Bool) :=
 if (seq a0 (bs [])) = true then (some (([] : List (Int × (Int × Int))), true)) else ((g0 a0 (bs [44])).bind fun t0 =>
 L0 t0 (dlen t0) 0 ([] : List (Int × (Int × Int))))
noncomputable def b0 (L0 : List ByteArray → Int → Int → List (Int × (Int × Int)) → Option ((List (Int × (Int × Int))) × Bool)) (g1 : ByteArray → ByteArray → Option ((List Int) × Bool)) (g2 : List (Int × (Int × Int)) → Option Bool) (x0 : List ByteArray) (x1 x2 : Int) (x3 : List (Int × (Int × Int))) : Option ((List (Int × (Int × Int))) × Bool) :=
 if (decide (x2 < x1)) = true then (if 0 ≤ x2 then (if x2 < (dlen x0) then ((g1 (rd (bs []) x0 x2) (bs [46])).bind fun t0 =>
 if (!t0.2) = true then (some (([] : List (Int × (Int × Int))), false)) else (if ((dlen t0.1) != 3) = true then (some (([] : List (Int × (Int × Int))), false)) else (if 0 < (dlen t0.1) then (if 1 < (dlen t0.1) then (if 2 < (dlen t0.1) then (if ((dlenN x3) + 1) ≤ 5864062014805 then (L0 x0 x1 (W (x2 + 1)) (x3 ++ [((rd 0 t0.1 0), ((rd 0 t0.1 1), (rd 0 t0.1 2)))])) else (none)) else (none)) else (none)) else (none)))) else (none)) else (none)) else ((g2 x3).bind fun t0 =>
 if (!t0) = true then (some (([] : List (Int × (Int × Int))), false)) else (some (x3, true)))
noncomputable def l0 : Nat → List ByteArray → Int → Int → List (Int × (Int × Int)) → Option ((List (Int × (Int × Int))) × Bool)
 | 0, _, _, _, _ => none
 | k + 1, x0, x1, x2, x3 => b0 (l0 k) (impl_readNumbers.f k) (impl_IsPuzzle.f k) x0 x1 x2 x3
noncomputable def f (k : Nat) (a0 : ByteArray) : Option ((List (Int × (Int × Int))) × Bool) := b (l0 k) strings_Split.f a0
theorem e (K : Nat) (a0 : ByteArray) : p (K + 1) a0 = b (q0 K K) (strings_Split.p K) a0 := PI_at Cx (by kernel_rfl)
theorem e0 (K m : Nat) (x0 : List ByteArray) (x1 x2 : Int) (x3 : List (Int × (Int × Int))) : q0 K (m + 1) x0 x1 x2 x3 = b0 (q0 K m) (impl_readNumbers.p K) (impl_IsPuzzle.p K) x0 x1 x2 x3 := by kernel_rfl
theorem kl (n : Nat) : ∀ K, n + 6 ≤ K → (∀ m, n ≤ m → ∀ (x0 : List ByteArray) (x1 x2 : Int) (x3 : List (Int × (Int × Int))), Le (l0 n x0 x1 x2 x3) (q0 K m x0 x1 x2 x3)) := by
 induction n with
 | zero => exact fun K _ => fun _ _ _ _ _ _ => Le.none
 | succ n ih =>
  intro K hK
  have ih := ih K (by omega)
  intro m hm x0 x1 x2 x3
  obtain ⟨m, rfl⟩ := pos_of_le hm
  rw [e0]
  show Le (b0 (l0 n) (impl_readNumbers.f n) (impl_IsPuzzle.f n) x0 x1 x2 x3) _
  unfold b0
  repeat' first | with_reducible apply Le.bind | with_reducible apply Le.ite | with_reducible exact Le.rfl | with_reducible refine ih _ ?_ _ _ _ _ | with_reducible refine impl_readNumbers.k ?_ _ _ | with_reducible refine impl_IsPuzzle.k ?_ _ | with_reducible intro _ | omega
theorem k {n K : Nat} (h : n + 7 ≤ K) (a0 : ByteArray) : Le (f n a0) (p K a0) := by
 obtain ⟨K, rfl⟩ := pos_of_le (show 0 + 1 ≤ K by omega)
 have kl := kl n K (by omega)
 rw [e]
 unfold f b
 repeat' first | with_reducible apply Le.bind | with_reducible apply Le.ite | with_reducible exact Le.rfl | with_reducible refine kl _ ?_ _ _ _ _ | with_reducible refine strings_Split.k ?_ _ _ | with_reducible intro _ | omega
end impl_ParsePuzzle
namespace spec_l1Split
noncomputable def p (K : Nat) (a0 : ByteArray) (a1 : Int) : Option (List ByteArray) := PI Cx K 74 [.sv (.one (.str a0)), .sv (.one (.int .u8 a1))]
noncomputable def q0 (K m : Nat) (x0 : ByteArray) (x1 x2 x3 : Int) (x4 : List ByteArray) : Option (List ByteArray) := runAt Cx K 74 [true, true, true, false, true, true] [m] ⟨[(0, .sv (.one (.str x0))), (1, .sv (.one (.int .u8 x1))), (5, .sv (.one (.full 1000000005000))), (6, .sv (.one (.int .i64 x2))), (7, .sv (.one (.int .i64 x3)))], [(1000000005000, .row 9 (.str) x4 .own)], []⟩
noncomputable def b (L0 : ByteArray → Int → Int → Int → List ByteArray → Option (List ByteArray)) (a0 : ByteArray) (a1 : Int) : Option (List ByteArray) :=
 L0 a0 a1 0 0 ([] : List ByteArray)
noncomputable def b0 (L0 : ByteArray → Int → Int → Int → List ByteArray → Option (List ByteArray)) (x0 : ByteArray) (x1 x2 x3 : Int) (x4 : List ByteArray) : Option (List ByteArray) :=
 if (decide (x3 < (slen x0))) = true then (if 0 ≤ x3 then (if x3 < (slen x0) then (if ((bat x0 x3) == x1) = true then (if 0 ≤ x2 then (if x2 ≤ x3 then (if x3 ≤ (slen x0) then (if ((dlenN x4) + 1) ≤ 8796093022208 then (L0 x0 x1 (W (x3 + 1)) (W (x3 + 1)) (x4 ++ [(ByteArray.extract x0 (Int.toNat x2) (Int.toNat x3))])) else (none)) else (none)) else (none)) else (none)) else (L0 x0 x1 x2 (W (x3 + 1)) x4)) else (none)) else (none)) else (if 0 ≤ x2 then (if x2 ≤ (slen x0) then (if ((dlenN x4) + 1) ≤ 8796093022208 then (some (x4 ++ [(ByteArray.extract x0 (Int.toNat x2) (Int.toNat (slen x0)))])) else (none)) else (none)) else (none))
noncomputable def l0 : Nat → ByteArray → Int → Int → Int → List ByteArray → Option (List ByteArray)
 | 0, _, _, _, _, _ => none
 | k + 1, x0, x1, x2, x3, x4 => b0 (l0 k) x0 x1 x2 x3 x4
noncomputable def f (k : Nat) (a0 : ByteArray) (a1 : Int) : Option (List ByteArray) := b (l0 k) a0 a1
theorem e (K : Nat) (a0 : ByteArray) (a1 : Int) : p (K + 1) a0 a1 = b (q0 K K) a0 a1 := PI_at Cx (by kernel_rfl)
theorem e0 (K m : Nat) (x0 : ByteArray) (x1 x2 x3 : Int) (x4 : List ByteArray) : q0 K (m + 1) x0 x1 x2 x3 x4 = b0 (q0 K m) x0 x1 x2 x3 x4 := by kernel_rfl
theorem kl (n : Nat) : ∀ K, n + 0 ≤ K → (∀ m, n ≤ m → ∀ (x0 : ByteArray) (x1 x2 x3 : Int) (x4 : List ByteArray), Le (l0 n x0 x1 x2 x3 x4) (q0 K m x0 x1 x2 x3 x4)) := by
 induction n with
 | zero => exact fun K _ => fun _ _ _ _ _ _ _ => Le.none
 | succ n ih =>
  intro K hK
  have ih := ih K (by omega)
  intro m hm x0 x1 x2 x3 x4
  obtain ⟨m, rfl⟩ := pos_of_le hm
  rw [e0]
  show Le (b0 (l0 n) x0 x1 x2 x3 x4) _
  unfold b0
  repeat' first | with_reducible apply Le.bind | with_reducible apply Le.ite | with_reducible exact Le.rfl | with_reducible refine ih _ ?_ _ _ _ _ _ | with_reducible intro _ | omega
theorem k {n K : Nat} (h : n + 1 ≤ K) (a0 : ByteArray) (a1 : Int) : Le (f n a0 a1) (p K a0 a1) := by
 obtain ⟨K, rfl⟩ := pos_of_le (show 0 + 1 ≤ K by omega)
 have kl := kl n K (by omega)
 rw [e]
 unfold f b
 repeat' first | with_reducible apply Le.bind | with_reducible apply Le.ite | with_reducible exact Le.rfl | with_reducible refine kl _ ?_ _ _ _ _ _ | with_reducible intro _ | omega
end spec_l1Split
namespace spec_l1Read
noncomputable def p (K : Nat) (a0 : ByteArray) : Option Int := PI Cx K 75 [.sv (.one (.str a0))]
noncomputable def q0 (K m : Nat) (x0 : ByteArray) (x1 x2 : Int) : Option Int := runAt Cx K 75 [true, true, true, false, true, true] [m] ⟨[(0, .sv (.one (.str x0))), (3, .sv (.one (.int .i64 x1))), (4, .sv (.one (.int .i64 x2)))], [], []⟩
noncomputable def b (L0 : ByteArray → Int → Int → Option Int) (g0 : Int → Int → Int → Option Bool) (a0 : ByteArray) : Option Int :=
 (g0 (slen a0) 1 6).bind fun t0 =>
 if (!t0) = true then (some (-1)) else (if 0 < (slen a0) then (if ((bat a0 0) == 48) = true then (if (decide ((slen a0) > 1)) = true then (some (-1)) else (L0 a0 0 0)) else (L0 a0 0 0)) else (none))
noncomputable def b0 (L0 : ByteArray → Int → Int → Option Int) (x0 : ByteArray) (x1 x2 : Int) : Option Int :=
 if (decide (x2 < (slen x0))) = true then (if 0 ≤ x2 then (if x2 < (slen x0) then (if (decide ((bat x0 x2) < 48)) = true then (some (-1)) else (if 0 ≤ x2 then (if x2 < (slen x0) then (if (decide ((bat x0 x2) > 57)) = true then (some (-1)) else (if 0 ≤ x2 then (if x2 < (slen x0) then (L0 x0 (W ((W (10 * x1)) + (W (IntKind.wrap .u8 ((bat x0 x2) - 48))))) (W (x2 + 1))) else (none)) else (none))) else (none)) else (none))) else (none)) else (none)) else (some x1)
noncomputable def l0 : Nat → ByteArray → Int → Int → Option Int
 | 0, _, _, _ => none
 | k + 1, x0, x1, x2 => b0 (l0 k) x0 x1 x2
noncomputable def f (k : Nat) (a0 : ByteArray) : Option Int := b (l0 k) spec_l1In.f a0
theorem e (K : Nat) (a0 : ByteArray) : p (K + 1) a0 = b (q0 K K) (spec_l1In.p K) a0 := PI_at Cx (by kernel_rfl)
theorem e0 (K m : Nat) (x0 : ByteArray) (x1 x2 : Int) : q0 K (m + 1) x0 x1 x2 = b0 (q0 K m) x0 x1 x2 := by kernel_rfl
theorem kl (n : Nat) : ∀ K, n + 1 ≤ K → (∀ m, n ≤ m → ∀ (x0 : ByteArray) (x1 x2 : Int), Le (l0 n x0 x1 x2) (q0 K m x0 x1 x2)) := by
 induction n with
 | zero => exact fun K _ => fun _ _ _ _ _ => Le.none
 | succ n ih =>
  intro K hK
  have ih := ih K (by omega)
  intro m hm x0 x1 x2
  obtain ⟨m, rfl⟩ := pos_of_le hm
  rw [e0]
  show Le (b0 (l0 n) x0 x1 x2) _
  unfold b0
  repeat' first | with_reducible apply Le.bind | with_reducible apply Le.ite | with_reducible exact Le.rfl | with_reducible refine ih _ ?_ _ _ _ | with_reducible intro _ | omega
theorem k {n K : Nat} (h : n + 2 ≤ K) (a0 : ByteArray) : Le (f n a0) (p K a0) := by
 obtain ⟨K, rfl⟩ := pos_of_le (show 0 + 1 ≤ K by omega)
 have kl := kl n K (by omega)
 rw [e]
 unfold f b
 repeat' first | with_reducible apply Le.bind | with_reducible apply Le.ite | with_reducible exact Le.rfl | with_reducible refine kl _ ?_ _ _ _ | with_reducible refine spec_l1In.k ?_ _ _ _ | with_reducible intro _ | omega
end spec_l1Read
namespace spec_pzParse
noncomputable def p (K : Nat) (a0 : ByteArray) : Option ((List (Int × (Int × Int))) × Bool) := PI Cx K 54 [.sv (.one (.str a0))]
noncomputable def q0 (K m : Nat) (x0 : ByteArray) (x1 : List ByteArray) (x2 x3 : Int) (x4 : List (Int × (Int × Int))) : Option ((List (Int × (Int × Int))) × Bool) := runAt Cx K 54 [true, true, true, false, true, false, true, true] [m] ⟨[(0, .sv (.one (.str x0))), (2, .sv (.one (.ptr 0 0))), (4, .sv (.one (.ptr 1000000 0))), (17, .sv (.one (.sl 9 (.str) x1))), (18, .sv (.one (.int .i64 x2))), (19, .sv (.one (.int .i64 x3)))], [(0, .box 24 [.nilsl]), (1000000, .box 24 [.full 2000001000000000]), (2000001000000000, .row 48 (.pair (.int .i64) (.pair (.int .i64) (.int .i64))) x4 .own)], []⟩
noncomputable def b (L0 : ByteArray → List ByteArray → Int → Int → List (Int × (Int × Int)) → Option ((List (Int × (Int × Int))) × Bool)) (g0 : ByteArray → Int → Option (List ByteArray)) (g1 : List (Int × (Int × Int)) → Option Bool) (g2 : List (Int × (Int × Int)) → Option ByteArray) (a0 : ByteArray) : Option ((List (Int × (Int × Int))) × Bool) :=
 if (decide ((slen a0) > 100)) = true then (some (([] : List (Int × (Int × Int))), false)) else (if (decide ((slen a0) > 0)) = true then ((g0 a0 44).bind fun t0 =>
 L0 a0 t0 (dlen t0) 0 ([] : List (Int × (Int × Int)))) else ((g1 ([] : List (Int × (Int × Int)))).bind fun t0 =>
 if t0 = true then ((g2 ([] : List (Int × (Int × Int)))).bind fun t1 =>
 some (([] : List (Int × (Int × Int))), (seq t1 a0))) else (some (([] : List (Int × (Int × Int))), false))))
noncomputable def b0 (L0 : ByteArray → List ByteArray → Int → Int → List (Int × (Int × Int)) → Option ((List (Int × (Int × Int))) × Bool)) (g0 : ByteArray → Int → Option (List ByteArray)) (g3 : ByteArray → Option Int) (g1 : List (Int × (Int × Int)) → Option Bool) (g2 : List (Int × (Int × Int)) → Option ByteArray) (x0 : ByteArray) (x1 : List ByteArray) (x2 x3 : Int) (x4 : List (Int × (Int × Int))) : Option ((List (Int × (Int × Int))) × Bool) :=
 if (decide (x3 < x2)) = true then (if 0 ≤ x3 then (if x3 < (dlen x1) then ((g0 (rd (bs []) x1 x3) 46).bind fun t0 =>
 if ((dlen t0) != 3) = true then (some (([] : List (Int × (Int × Int))), false)) else (if 2 < (dlen t0) then ((g3 (rd (bs []) t0 2)).bind fun t1 =>
 if 2 < (dlen t0) then (if (decide ((slen (rd (bs []) t0 2)) > 1)) = true then (if 2 < (dlen t0) then (if 0 < (slen (rd (bs []) t0 2)) then (if ((bat (rd (bs []) t0 2) 0) == 45) = true then (if 2 < (dlen t0) then (if 1 ≤ (slen (rd (bs []) t0 2)) then ((g3 (ByteArray.extract (rd (bs []) t0 2) 1 (Int.toNat (slen (rd (bs []) t0 2))))).bind fun t2 =>
 if 0 < (dlen t0) then ((g3 (rd (bs []) t0 0)).bind fun t3 =>
 if 1 < (dlen t0) then ((g3 (rd (bs []) t0 1)).bind fun t4 =>
 if ((dlenN x4) + 1) ≤ 5864062014805 then (L0 x0 x1 x2 (W (x3 + 1)) (x4 ++ [(t3, (t4, (W (0 - t2))))])) else (none)) else (none)) else (none)) else (none)) else (none)) else (if 0 < (dlen t0) then ((g3 (rd (bs []) t0 0)).bind fun t2 =>
 if 1 < (dlen t0) then ((g3 (rd (bs []) t0 1)).bind fun t3 =>
 if ((dlenN x4) + 1) ≤ 5864062014805 then (L0 x0 x1 x2 (W (x3 + 1)) (x4 ++ [(t2, (t3, t1))])) else (none)) else (none)) else (none))) else (none)) else (none)) else (if 0 < (dlen t0) then ((g3 (rd (bs []) t0 0)).bind fun t2 =>
 if 1 < (dlen t0) then ((g3 (rd (bs []) t0 1)).bind fun t3 =>
 if ((dlenN x4) + 1) ≤ 5864062014805 then (L0 x0 x1 x2 (W (x3 + 1)) (x4 ++ [(t2, (t3, t1))])) else (none)) else (none)) else (none))) else (none)) else (none))) else (none)) else (none)) else ((g1 x4).bind fun t0 =>
 if t0 = true then ((g2 x4).bind fun t1 =>
 some (x4, (seq t1 x0))) else (some (x4, false)))
noncomputable def l0 : Nat → ByteArray → List ByteArray → Int → Int → List (Int × (Int × Int)) → Option ((List (Int × (Int × Int))) × Bool)
 | 0, _, _, _, _, _ => none
 | k + 1, x0, x1, x2, x3, x4 => b0 (l0 k) (spec_l1Split.f k) (spec_l1Read.f k) (spec_pzGood.f k) (spec_pzText.f k) x0 x1 x2 x3 x4
noncomputable def f (k : Nat) (a0 : ByteArray) : Option ((List (Int × (Int × Int))) × Bool) := b (l0 k) (spec_l1Split.f k) (spec_pzGood.f k) (spec_pzText.f k) a0
theorem e (K : Nat) (a0 : ByteArray) : p (K + 1) a0 = b (q0 K K) (spec_l1Split.p K) (spec_pzGood.p K) (spec_pzText.p K) a0 := PI_at Cx (by kernel_rfl)
theorem e0 (K m : Nat) (x0 : ByteArray) (x1 : List ByteArray) (x2 x3 : Int) (x4 : List (Int × (Int × Int))) : q0 K (m + 1) x0 x1 x2 x3 x4 = b0 (q0 K m) (spec_l1Split.p K) (spec_l1Read.p K) (spec_pzGood.p K) (spec_pzText.p K) x0 x1 x2 x3 x4 := by kernel_rfl
theorem kl (n : Nat) : ∀ K, n + 3 ≤ K → (∀ m, n ≤ m → ∀ (x0 : ByteArray) (x1 : List ByteArray) (x2 x3 : Int) (x4 : List (Int × (Int × Int))), Le (l0 n x0 x1 x2 x3 x4) (q0 K m x0 x1 x2 x3 x4)) := by
 induction n with
 | zero => exact fun K _ => fun _ _ _ _ _ _ _ => Le.none
 | succ n ih =>
  intro K hK
  have ih := ih K (by omega)
  intro m hm x0 x1 x2 x3 x4
  obtain ⟨m, rfl⟩ := pos_of_le hm
  rw [e0]
  show Le (b0 (l0 n) (spec_l1Split.f n) (spec_l1Read.f n) (spec_pzGood.f n) (spec_pzText.f n) x0 x1 x2 x3 x4) _
  unfold b0
  repeat' first | with_reducible apply Le.bind | with_reducible apply Le.ite | with_reducible exact Le.rfl | with_reducible refine ih _ ?_ _ _ _ _ _ | with_reducible refine spec_l1Split.k ?_ _ _ | with_reducible refine spec_l1Read.k ?_ _ | with_reducible refine spec_pzGood.k ?_ _ | with_reducible refine spec_pzText.k ?_ _ | with_reducible intro _ | omega
theorem k {n K : Nat} (h : n + 4 ≤ K) (a0 : ByteArray) : Le (f n a0) (p K a0) := by
 obtain ⟨K, rfl⟩ := pos_of_le (show 0 + 1 ≤ K by omega)
 have kl := kl n K (by omega)
 rw [e]
 unfold f b
 repeat' first | with_reducible apply Le.bind | with_reducible apply Le.ite | with_reducible exact Le.rfl | with_reducible refine kl _ ?_ _ _ _ _ _ | with_reducible refine spec_l1Split.k ?_ _ _ | with_reducible refine spec_pzGood.k ?_ _ | with_reducible refine spec_pzText.k ?_ _ | with_reducible intro _ | omega
end spec_pzParse
namespace spec_ParsePuzzle
noncomputable def p (K : Nat) (a0 : ByteArray) : Option ((List (Int × (Int × Int))) × Bool) := PI Cx K 33 [.sv (.one (.str a0))]
noncomputable def b (g0 : ByteArray → Option ((List (Int × (Int × Int))) × Bool)) (a0 : ByteArray) : Option ((List (Int × (Int × Int))) × Bool) :=
 (g0 a0).bind fun t0 =>
 if (!t0.2) = true then (some (([] : List (Int × (Int × Int))), false)) else (some (t0.1, true))
noncomputable def f (k : Nat) (a0 : ByteArray) : Option ((List (Int × (Int × Int))) × Bool) := b (spec_pzParse.f k) a0
theorem e (K : Nat) (a0 : ByteArray) : p (K + 1) a0 = b (spec_pzParse.p K) a0 := PI_at Cx (by kernel_rfl)
theorem k {n K : Nat} (h : n + 5 ≤ K) (a0 : ByteArray) : Le (f n a0) (p K a0) := by
 obtain ⟨K, rfl⟩ := pos_of_le (show 0 + 1 ≤ K by omega)
 rw [e]
 unfold f b
 repeat' first | with_reducible apply Le.bind | with_reducible apply Le.ite | with_reducible exact Le.rfl | with_reducible refine spec_pzParse.k ?_ _ | with_reducible intro _ | omega
end spec_ParsePuzzle
namespace laws_qClues
noncomputable def p (K : Nat) (a0 a1 : List (Int × (Int × Int))) : Option Bool := PI Cx K 32 [.sv (.one (.sl 48 (.pair (.int .i64) (.pair (.int .i64) (.int .i64))) a0)), .sv (.one (.sl 48 (.pair (.int .i64) (.pair (.int .i64) (.int .i64))) a1))]
noncomputable def q0 (K m : Nat) (x0 x1 : List (Int × (Int × Int))) (x2 x3 : Int) : Option Bool := runAt Cx K 32 [true, true, false, true, true] [m] ⟨[(0, .sv (.one (.sl 48 (.pair (.int .i64) (.pair (.int .i64) (.int .i64))) x0))), (1, .sv (.one (.sl 48 (.pair (.int .i64) (.pair (.int .i64) (.int .i64))) x1))), (12, .sv (.one (.int .i64 x2))), (13, .sv (.one (.int .i64 x3)))], [], []⟩
noncomputable def b (L0 : List (Int × (Int × Int)) → List (Int × (Int × Int)) → Int → Int → Option Bool) (a0 a1 : List (Int × (Int × Int))) : Option Bool :=
 if ((dlen a0) != (dlen a1)) = true then (some false) else (L0 a0 a1 (dlen a0) 0)
noncomputable def b0 (L0 : List (Int × (Int × Int)) → List (Int × (Int × Int)) → Int → Int → Option Bool) (x0 x1 : List (Int × (Int × Int))) (x2 x3 : Int) : Option Bool :=
 if (decide (x3 < x2)) = true then (if 0 ≤ x3 then (if x3 < (dlen x0) then (if 0 ≤ x3 then (if x3 < (dlen x1) then (if (!(((rd (0, (0, 0)) x0 x3).1 == (rd (0, (0, 0)) x1 x3).1) && (((rd (0, (0, 0)) x0 x3).2.1 == (rd (0, (0, 0)) x1 x3).2.1) && ((rd (0, (0, 0)) x0 x3).2.2 == (rd (0, (0, 0)) x1 x3).2.2)))) = true then (some false) else (L0 x0 x1 x2 (W (x3 + 1)))) else (none)) else (none)) else (none)) else (none)) else (some true)
noncomputable def l0 : Nat → List (Int × (Int × Int)) → List (Int × (Int × Int)) → Int → Int → Option Bool
 | 0, _, _, _, _ => none
 | k + 1, x0, x1, x2, x3 => b0 (l0 k) x0 x1 x2 x3
noncomputable def f (k : Nat) (a0 a1 : List (Int × (Int × Int))) : Option Bool := b (l0 k) a0 a1
theorem e (K : Nat) (a0 a1 : List (Int × (Int × Int))) : p (K + 1) a0 a1 = b (q0 K K) a0 a1 := PI_at Cx (by kernel_rfl)
theorem e0 (K m : Nat) (x0 x1 : List (Int × (Int × Int))) (x2 x3 : Int) : q0 K (m + 1) x0 x1 x2 x3 = b0 (q0 K m) x0 x1 x2 x3 := by kernel_rfl
theorem kl (n : Nat) : ∀ K, n + 0 ≤ K → (∀ m, n ≤ m → ∀ (x0 x1 : List (Int × (Int × Int))) (x2 x3 : Int), Le (l0 n x0 x1 x2 x3) (q0 K m x0 x1 x2 x3)) := by
 induction n with
 | zero => exact fun K _ => fun _ _ _ _ _ _ => Le.none
 | succ n ih =>
  intro K hK
  have ih := ih K (by omega)
  intro m hm x0 x1 x2 x3
  obtain ⟨m, rfl⟩ := pos_of_le hm
  rw [e0]
  show Le (b0 (l0 n) x0 x1 x2 x3) _
  unfold b0
  repeat' first | with_reducible apply Le.bind | with_reducible apply Le.ite | with_reducible exact Le.rfl | with_reducible refine ih _ ?_ _ _ _ _ | with_reducible intro _ | omega
theorem k {n K : Nat} (h : n + 1 ≤ K) (a0 a1 : List (Int × (Int × Int))) : Le (f n a0 a1) (p K a0 a1) := by
 obtain ⟨K, rfl⟩ := pos_of_le (show 0 + 1 ≤ K by omega)
 have kl := kl n K (by omega)
 rw [e]
 unfold f b
 repeat' first | with_reducible apply Le.bind | with_reducible apply Le.ite | with_reducible exact Le.rfl | with_reducible refine kl _ ?_ _ _ _ _ | with_reducible intro _ | omega
end laws_qClues
namespace impl_IsSnail
noncomputable def p (K : Nat) (a0 a1 : Int) : Option Bool := PI Cx K 27 [.sv (.agg [.int .i64 a0, .int .i64 a1])]
noncomputable def b (g0 : Int → Int → Int → Option Bool) (a0 a1 : Int) : Option Bool :=
 (g0 a0 1 1000).bind fun t0 =>
 if t0 = true then ((g0 a1 0 1000).bind fun t1 =>
 some t1) else (some false)
noncomputable def f (a0 a1 : Int) : Option Bool := b impl_within.f a0 a1
theorem e (K : Nat) (a0 a1 : Int) : p (K + 1) a0 a1 = b (impl_within.p K) a0 a1 := PI_at Cx (by kernel_rfl)
theorem k {K : Nat} (h : 2 ≤ K) (a0 a1 : Int) : Le (f a0 a1) (p K a0 a1) := by
 obtain ⟨K, rfl⟩ := pos_of_le (show 0 + 1 ≤ K by omega)
 rw [e]
 unfold f b
 repeat' first | with_reducible apply Le.bind | with_reducible apply Le.ite | with_reducible exact Le.rfl | with_reducible refine impl_within.k ?_ _ _ _ | with_reducible intro _ | omega
end impl_IsSnail
namespace impl_isHidden
noncomputable def p (K : Nat) (a0 a1 : Int) : Option Bool := PI Cx K 50 [.sv (.agg [.int .i64 a0, .int .i64 a1])]
noncomputable def b (g0 : Int → Int → Int → Option Bool) (a0 a1 : Int) : Option Bool :=
 (g0 a0 1 12).bind fun t0 =>
 if t0 = true then ((g0 a1 0 12).bind fun t1 =>
 some t1) else (some false)
noncomputable def f (a0 a1 : Int) : Option Bool := b impl_within.f a0 a1
theorem e (K : Nat) (a0 a1 : Int) : p (K + 1) a0 a1 = b (impl_within.p K) a0 a1 := PI_at Cx (by kernel_rfl)
theorem k {K : Nat} (h : 2 ≤ K) (a0 a1 : Int) : Le (f a0 a1) (p K a0 a1) := by
 obtain ⟨K, rfl⟩ := pos_of_le (show 0 + 1 ≤ K by omega)
 rw [e]
 unfold f b
 repeat' first | with_reducible apply Le.bind | with_reducible apply Le.ite | with_reducible exact Le.rfl | with_reducible refine impl_within.k ?_ _ _ _ | with_reducible intro _ | omega
end impl_isHidden
namespace impl_DoesFit
noncomputable def p (K : Nat) (a0 a1 a2 a3 a4 : Int) : Option (Bool × Bool) := PI Cx K 28 [.sv (.agg [.int .i64 a0, .int .i64 a1, .int .i64 a2]), .sv (.agg [.int .i64 a3, .int .i64 a4])]
noncomputable def b (g0 : Int → Int → Int → Option Bool) (g1 : Int → Int → Option Bool) (g2 : Int → Int → Int → Int → Int → Option Bool) (a0 a1 a2 a3 a4 : Int) : Option (Bool × Bool) :=
 (g0 a0 a1 a2).bind fun t0 =>
 if (!t0) = true then (some (false, false)) else ((g1 a3 a4).bind fun t1 =>
 if (!t1) = true then (some (false, false)) else ((g2 a0 a1 a2 a3 a4).bind fun t2 =>
 some (t2, true)))
noncomputable def f (a0 a1 a2 a3 a4 : Int) : Option (Bool × Bool) := b impl_IsClue.f impl_isHidden.f impl_doesFit.f a0 a1 a2 a3 a4
theorem e (K : Nat) (a0 a1 a2 a3 a4 : Int) : p (K + 1) a0 a1 a2 a3 a4 = b (impl_IsClue.p K) (impl_isHidden.p K) (impl_doesFit.p K) a0 a1 a2 a3 a4 := PI_at Cx (by kernel_rfl)
theorem k {K : Nat} (h : 5 ≤ K) (a0 a1 a2 a3 a4 : Int) : Le (f a0 a1 a2 a3 a4) (p K a0 a1 a2 a3 a4) := by
 obtain ⟨K, rfl⟩ := pos_of_le (show 0 + 1 ≤ K by omega)
 rw [e]
 unfold f b
 repeat' first | with_reducible apply Le.bind | with_reducible apply Le.ite | with_reducible exact Le.rfl | with_reducible refine impl_IsClue.k ?_ _ _ _ | with_reducible refine impl_isHidden.k ?_ _ _ | with_reducible refine impl_doesFit.k ?_ _ _ _ _ _ | with_reducible intro _ | omega
end impl_DoesFit
namespace impl_DropClue
noncomputable def p (K : Nat) (a0 : List (Int × (Int × Int))) (a1 : Int) : Option ((List (Int × (Int × Int))) × Bool) := PI Cx K 29 [.sv (.agg [.sl 48 (.pair (.int .i64) (.pair (.int .i64) (.int .i64))) a0]), .sv (.one (.int .i64 a1))]
noncomputable def b (g0 : List (Int × (Int × Int)) → Option Bool) (g1 : Int → Int → Int → Option Bool) (g2 : List (Int × (Int × Int)) → Int → Option (List (Int × (Int × Int)))) (a0 : List (Int × (Int × Int))) (a1 : Int) : Option ((List (Int × (Int × Int))) × Bool) :=
 (g0 a0).bind fun t0 =>
 if (!t0) = true then (some (([] : List (Int × (Int × Int))), false)) else ((g1 a1 0 (W ((dlen a0) - 1))).bind fun t1 =>
 if (!t1) = true then (some (([] : List (Int × (Int × Int))), false)) else ((g2 a0 a1).bind fun t2 =>
 some (t2, true)))
noncomputable def f (k : Nat) (a0 : List (Int × (Int × Int))) (a1 : Int) : Option ((List (Int × (Int × Int))) × Bool) := b (impl_IsPuzzle.f k) impl_within.f impl_withoutClue.f a0 a1
theorem e (K : Nat) (a0 : List (Int × (Int × Int))) (a1 : Int) : p (K + 1) a0 a1 = b (impl_IsPuzzle.p K) (impl_within.p K) (impl_withoutClue.p K) a0 a1 := PI_at Cx (by kernel_rfl)
theorem k {n K : Nat} (h : n + 7 ≤ K) (a0 : List (Int × (Int × Int))) (a1 : Int) : Le (f n a0 a1) (p K a0 a1) := by
 obtain ⟨K, rfl⟩ := pos_of_le (show 0 + 1 ≤ K by omega)
 rw [e]
 unfold f b
 repeat' first | with_reducible apply Le.bind | with_reducible apply Le.ite | with_reducible exact Le.rfl | with_reducible refine impl_IsPuzzle.k ?_ _ | with_reducible refine impl_within.k ?_ _ _ _ | with_reducible refine impl_withoutClue.k ?_ _ _ | with_reducible intro _ | omega
end impl_DropClue
namespace laws_qHas
noncomputable def p (K : Nat) (a0 : List Int) (a1 : Int) : Option Bool := PI Cx K 30 [.sv (.one (.sl 3 (.int .i64) a0)), .sv (.one (.int .i64 a1))]
noncomputable def q0 (K m : Nat) (x0 : Int) (x1 : List Int) (x2 x3 : Int) : Option Bool := runAt Cx K 30 [true, false, true, true] [m] ⟨[(1, .sv (.one (.int .i64 x0))), (7, .sv (.one (.sl 3 (.int .i64) x1))), (8, .sv (.one (.int .i64 x2))), (9, .sv (.one (.int .i64 x3)))], [], []⟩
noncomputable def b (L0 : Int → List Int → Int → Int → Option Bool) (a0 : List Int) (a1 : Int) : Option Bool :=
 L0 a1 a0 (dlen a0) 0
noncomputable def b0 (L0 : Int → List Int → Int → Int → Option Bool) (x0 : Int) (x1 : List Int) (x2 x3 : Int) : Option Bool :=
 if (decide (x3 < x2)) = true then (if 0 ≤ x3 then (if x3 < (dlen x1) then (if ((rd 0 x1 x3) == x0) = true then (some true) else (L0 x0 x1 x2 (W (x3 + 1)))) else (none)) else (none)) else (some false)
noncomputable def l0 : Nat → Int → List Int → Int → Int → Option Bool
 | 0, _, _, _, _ => none
 | k + 1, x0, x1, x2, x3 => b0 (l0 k) x0 x1 x2 x3
noncomputable def f (k : Nat) (a0 : List Int) (a1 : Int) : Option Bool := b (l0 k) a0 a1
theorem e (K : Nat) (a0 : List Int) (a1 : Int) : p (K + 1) a0 a1 = b (q0 K K) a0 a1 := PI_at Cx (by kernel_rfl)
theorem e0 (K m : Nat) (x0 : Int) (x1 : List Int) (x2 x3 : Int) : q0 K (m + 1) x0 x1 x2 x3 = b0 (q0 K m) x0 x1 x2 x3 := by kernel_rfl
theorem kl (n : Nat) : ∀ K, n + 0 ≤ K → (∀ m, n ≤ m → ∀ (x0 : Int) (x1 : List Int) (x2 x3 : Int), Le (l0 n x0 x1 x2 x3) (q0 K m x0 x1 x2 x3)) := by
 induction n with
 | zero => exact fun K _ => fun _ _ _ _ _ _ => Le.none
 | succ n ih =>
  intro K hK
  have ih := ih K (by omega)
  intro m hm x0 x1 x2 x3
  obtain ⟨m, rfl⟩ := pos_of_le hm
  rw [e0]
  show Le (b0 (l0 n) x0 x1 x2 x3) _
  unfold b0
  repeat' first | with_reducible apply Le.bind | with_reducible apply Le.ite | with_reducible exact Le.rfl | with_reducible refine ih _ ?_ _ _ _ _ | with_reducible intro _ | omega
theorem k {n K : Nat} (h : n + 1 ≤ K) (a0 : List Int) (a1 : Int) : Le (f n a0 a1) (p K a0 a1) := by
 obtain ⟨K, rfl⟩ := pos_of_le (show 0 + 1 ≤ K by omega)
 have kl := kl n K (by omega)
 rw [e]
 unfold f b
 repeat' first | with_reducible apply Le.bind | with_reducible apply Le.ite | with_reducible exact Le.rfl | with_reducible refine kl _ ?_ _ _ _ _ | with_reducible intro _ | omega
end laws_qHas
end Go.Proofs.YtlibgicponpecaaGreatDoor.Gu
