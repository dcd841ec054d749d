-- written by a program of this session, over the form of the kit's print
import Derived.Test.YtojbcpklmegjpaaQFnVisitsChancex20
namespace Go.Proofs.Ytojbcpklmegjpaa.QFnVisitsChance
open Go.RowKit Go.Proofs.YtojbcpklmegjpaaV Go.Proofs.YtojbcpklmegjpaaW.PrintWords Go.Proofs.YtojbcpklmegjpaaW.PrintLast Go.Proofs.YtojbcpklmegjpaaW.PrintMore
attribute [local go_sem] max2_int min2_int max_two min_two max_three min_three max_four min_four   -- for this text's walks alone
set_option linter.unusedVariables false
set_option linter.unusedSimpArgs false

set_option maxHeartbeats 60000000 in
set_option maxRecDepth 100000 in
theorem laws_FnVisitsChance.calls0 (h1 : laws_FnVisitsChance.Seg1) (k : Nat) (A0 : Option Addr) (c0 : Nat) (l0 : List Int) (A1 : Option Addr) (c1 : Nat) (l1 : List Int) (r : Bool) (w : World) (hr0 : Kd.C (Kd.int .u8) w A0 l0.length l0) (hc0 : l0.length ≤ c0) (hr1 : Kd.C (Kd.int .u8) w A1 l1.length l1) (hc1 : l1.length ≤ c1) (h : laws_FnVisitsChance.f k l0 l1 = some r) :
  Calls Try.prog 5 #[.slice A0 l0.length c0, .slice A1 l1.length c1] w fun e w' => e = .returned (.bool r) ∧ Below w.heap.size w w' := by
 have HR0 := Aside0.mk hr0
 have HC0 := Aside0.mk hc0
 clear hr0 hc0
 have HR1 := Aside0.mk hr1
 have HC1 := Aside0.mk hc1
 clear hr1 hc1
 have HB := Aside0.mk (Below.refl w.heap.size w)
 have H : ((laws_big.f l0 l1).bind fun t290 => (if t290 = true then (some true) else ((spec_DrawCountTogether.f l0).bind fun bt291 => ((impl_CountTogether.f k bt291.1 bt291.2.1 bt291.2.2).bind fun bt294 => ((spec_CountTogether.f k bt291.1 bt291.2.1 bt291.2.2).bind fun bt296 => ((impl_ChanceTogether.f k bt291.1 bt291.2.1 bt291.2.2).bind fun bt298 => ((spec_ChanceTogether.f k bt291.1 bt291.2.1 bt291.2.2).bind fun bt301 => (if (bt294.2 != bt296.2) = true then (laws_FnVisitsChance.j0 k l1 bt291.1 bt291.2.1 bt291.2.2 bt294.1 bt294.2 bt298.1 bt298.2.1 true) else (if bt294.1 = bt296.1 then (if (bt298.2.2 != bt301.2.2) = true then (laws_FnVisitsChance.j0 k l1 bt291.1 bt291.2.1 bt291.2.2 bt294.1 bt294.2 bt298.1 bt298.2.1 true) else (if bt298.1 = bt301.1 then (if bt298.2.1 = bt301.2.1 then (laws_FnVisitsChance.j0 k l1 bt291.1 bt291.2.1 bt291.2.2 bt294.1 bt294.2 bt298.1 bt298.2.1 (bt298.2.2 != bt294.2)) else (laws_FnVisitsChance.j0 k l1 bt291.1 bt291.2.1 bt291.2.2 bt294.1 bt294.2 bt298.1 bt298.2.1 true)) else (laws_FnVisitsChance.j0 k l1 bt291.1 bt291.2.1 bt291.2.2 bt294.1 bt294.2 bt298.1 bt298.2.1 true))) else (laws_FnVisitsChance.j0 k l1 bt291.1 bt291.2.1 bt291.2.2 bt294.1 bt294.2 bt298.1 bt298.2.1 true)))))))))) = some r := h
 clear h
 replace H := Option.bind_eq_some_iff.mp H
 obtain ⟨t290, A30, H⟩ := H
 try dsimp only at H
 have A3 := Aside0.mk A30
 clear A30
 by_cases c4 : t290 = true
 ·subst c4
  rw [if_pos rfl] at H
  try dsimp only at H
  obtain rfl := Option.some.inj H
  go_enter Try.func5, Try.ntmps5
  go_wp2_with (first | ((with_reducible refine gate_callee (f := 17) rfl ?_); refine goesL_ (some 87) rfl rfl Try.func17 (by kernel_rfl) rfl #[.slice A0 l0.length c0, .slice A1 l1.length c1] rfl (by (try simp only [List.map_toArray, List.map_cons, List.map_nil]); first | done | rfl | (simp only [List.length_drop, List.length_take]; rfl)) ?_; (with_reducible refine (laws_big.calls _ _ l0 _ _ l1 true _ ?side1 ?side2 ?side3 ?side4 A3.out).mono ?_); (case side1 => repeat (first | exact HR0.out | (with_reducible refine Kd.C_alloc ?_ _) | (with_reducible refine Kd.C_drewN ?_ _) | (with_reducible refine Kd.C_drew ?_))); (case side2 => exact HC0.out); (case side3 => repeat (first | exact HR1.out | (with_reducible refine Kd.C_alloc ?_ _) | (with_reducible refine Kd.C_drewN ?_ _) | (with_reducible refine Kd.C_drew ?_))); (case side4 => exact HC1.out); rintro e w' ⟨rfl, ⟨nd, rfl⟩⟩; refine ⟨_, rfl, ?_⟩))
  go_ret
  exact ⟨by first | rfl | (simp [errW_none, errW_some] <;> rfl) | (simp [*, errW_none, errW_some] <;> rfl), hB HB.out⟩
 ·replace c4 := Bool.eq_false_iff.mpr c4
  subst c4
  rw [if_neg (show ¬ (false = true) by decide)] at H
  try dsimp only at H
  replace H := Option.bind_eq_some_iff.mp H
  obtain ⟨⟨t291, t292, t293⟩, A50, H⟩ := H
  try dsimp only at H
  have A5 := Aside0.mk A50
  clear A50
  replace H := Option.bind_eq_some_iff.mp H
  obtain ⟨⟨t294, t295⟩, A60, H⟩ := H
  try dsimp only at H
  have A6 := Aside0.mk A60
  clear A60
  replace H := Option.bind_eq_some_iff.mp H
  obtain ⟨⟨t296, t297⟩, A70, H⟩ := H
  try dsimp only at H
  have A7 := Aside0.mk A70
  clear A70
  replace H := Option.bind_eq_some_iff.mp H
  obtain ⟨⟨t298, t299, t300⟩, A80, H⟩ := H
  try dsimp only at H
  have A8 := Aside0.mk A80
  clear A80
  replace H := Option.bind_eq_some_iff.mp H
  obtain ⟨⟨t301, t302, t303⟩, A90, H⟩ := H
  try dsimp only at H
  have A9 := Aside0.mk A90
  clear A90
  have HC10 := Aside0.mk H
  clear H
  go_enter Try.func5, Try.ntmps5
  go_upto_region 8 with (first | ((with_reducible refine gate_callee (f := 17) rfl ?_); refine goesL_ (some 87) rfl rfl Try.func17 (by kernel_rfl) rfl #[.slice A0 l0.length c0, .slice A1 l1.length c1] rfl (by (try simp only [List.map_toArray, List.map_cons, List.map_nil]); first | done | rfl | (simp only [List.length_drop, List.length_take]; rfl)) ?_; (with_reducible refine (laws_big.calls _ _ l0 _ _ l1 false _ ?side1 ?side2 ?side3 ?side4 A3.out).mono ?_); (case side1 => repeat (first | exact HR0.out | (with_reducible refine Kd.C_alloc ?_ _) | (with_reducible refine Kd.C_drewN ?_ _) | (with_reducible refine Kd.C_drew ?_))); (case side2 => exact HC0.out); (case side3 => repeat (first | exact HR1.out | (with_reducible refine Kd.C_alloc ?_ _) | (with_reducible refine Kd.C_drewN ?_ _) | (with_reducible refine Kd.C_drew ?_))); (case side4 => exact HC1.out); rintro e w' ⟨rfl, ⟨nd, rfl⟩⟩; refine ⟨_, rfl, ?_⟩) | ((with_reducible refine gate_callee (f := 18) rfl ?_); refine goesL_ (some 90) rfl rfl Try.func18 (by kernel_rfl) rfl #[.slice A0 l0.length c0] rfl (by (try simp only [List.map_toArray, List.map_cons, List.map_nil]); first | done | rfl | (simp only [List.length_drop, List.length_take]; rfl)) ?_; (with_reducible refine (spec_DrawCountTogether.calls _ _ l0 t291 t292 t293 _ ?side1 ?side2 A5.out).mono ?_); (case side1 => repeat (first | exact HR0.out | (with_reducible refine Kd.C_alloc ?_ _) | (with_reducible refine Kd.C_drewN ?_ _) | (with_reducible refine Kd.C_drew ?_))); (case side2 => exact HC0.out); rintro e w11 ⟨rfl, hb⟩; refine ⟨_, rfl, ?_⟩; have n0_ := Aside0.mk (below_step (hB HB.out) hb); clear HB; have HB := n0_; clear n0_; (try clear hb); (try clear hb2); (try clear hk); (try clear hi)) | ((with_reducible refine gate_callee (f := 19) rfl ?_); refine goesL_ (some 98) rfl rfl Try.func19 (by kernel_rfl) rfl #[.int .i64 t291, .int .i64 t292, .int .i64 t293] rfl (by (try simp only [List.map_toArray, List.map_cons, List.map_nil]); first | done | rfl | (simp only [List.length_drop, List.length_take]; rfl)) ?_; (with_reducible refine (impl_CountTogether.calls k t291 t292 t293 t294 t295 _ A6.out).mono ?_); rintro e w' ⟨rfl, ⟨nd, rfl⟩⟩; refine ⟨_, rfl, ?_⟩) | ((with_reducible refine gate_callee (f := 20) rfl ?_); refine goesL_ (some 105) rfl rfl Try.func20 (by kernel_rfl) rfl #[.int .i64 t291, .int .i64 t292, .int .i64 t293] rfl (by (try simp only [List.map_toArray, List.map_cons, List.map_nil]); first | done | rfl | (simp only [List.length_drop, List.length_take]; rfl)) ?_; (with_reducible refine (spec_CountTogether.calls k t291 t292 t293 t296 t297 _ A7.out).mono ?_); rintro e w' ⟨rfl, ⟨nd, rfl⟩⟩; refine ⟨_, rfl, ?_⟩) | ((with_reducible refine gate_callee (f := 21) rfl ?_); refine goesL_ (some 112) rfl rfl Try.func21 (by kernel_rfl) rfl #[.int .i64 t291, .int .i64 t292, .int .i64 t293] rfl (by (try simp only [List.map_toArray, List.map_cons, List.map_nil]); first | done | rfl | (simp only [List.length_drop, List.length_take]; rfl)) ?_; (with_reducible refine (impl_ChanceTogether.calls k t291 t292 t293 t298 t299 t300 _ A8.out).mono ?_); rintro e w12 ⟨rfl, hb⟩; refine ⟨_, rfl, ?_⟩; have n0_ := Aside0.mk (below_step (hB HB.out) hb); clear HB; have HB := n0_; clear n0_; (try clear hb); (try clear hb2); (try clear hk); (try clear hi)) | ((with_reducible refine gate_callee (f := 22) rfl ?_); refine goesL_ (some 120) rfl rfl Try.func22 (by kernel_rfl) rfl #[.int .i64 t291, .int .i64 t292, .int .i64 t293] rfl (by (try simp only [List.map_toArray, List.map_cons, List.map_nil]); first | done | rfl | (simp only [List.length_drop, List.length_take]; rfl)) ?_; (with_reducible refine (spec_ChanceTogether.calls k t291 t292 t293 t301 t302 t303 _ A9.out).mono ?_); rintro e w' ⟨rfl, ⟨nd, rfl⟩⟩; refine ⟨_, rfl, ?_⟩))
  (try simp only [Act.put, List.setIfInBounds_toArray, List.set_cons_zero, List.set_cons_succ])
  go_cut [151] from 592 (fun v151 wc => ∃ (kq : Nat) (x151_9 : Bool), v151 = .bool x151_9 ∧ Aside0 (laws_FnVisitsChance.j0 kq l1 t291 t292 t293 t294 t295 t298 t299 x151_9 = some r) ∧ Aside0 (kq ≤ k) ∧ Aside0 (Below w.heap.size w wc))
  case first =>
   have H := HC10.out
   clear HC10
   by_cases c13 : (t295 != t297) = true
   ·rw [if_pos c13] at H
    have c13b0 : (t295 != t297) = true := c13
    (try (have c13b1 : decide (t295 = t297) = false := by simpa using c13))
    (try (have c13b2 : (t295 == t297) = false := by simpa using c13))
    (try (have c13b3 : ¬ (t295 = t297) := by simpa using c13))
    clear c13
    (first | rw [c13b0] | (simp only [i64_w, i32_w]; rw [c13b0]) | skip)
    have H' := Aside0.mk H
    clear H
    go_wp2
    go_meet
    case rel => exact ⟨_, (true), (by first | rfl | (simp; done) | (simp [*]; done)), H', ⟨by first | omega | exact Nat.le_refl _⟩, ⟨hB HB.out⟩⟩
   ·rw [if_neg c13] at H
    have c13b0 : (t295 != t297) = false := by simpa using c13
    (try (have c13b1 : decide (t295 = t297) = true := by simpa using c13))
    (try (have c13b2 : (t295 == t297) = true := by simpa using c13))
    clear c13
    (first | rw [c13b0] | (simp only [i64_w, i32_w]; rw [c13b0]) | skip)
    by_cases c14 : t294 = t296
    ·rw [if_pos c14] at H
     have c14b0 : (t294 == t296) = true := beq_iff_eq.mpr c14
     have c14b1 : (t294 != t296) = false := bne_eq_false_iff_eq.mpr c14
     clear c14
     by_cases c15 : (t300 != t303) = true
     ·rw [if_pos c15] at H
      have c15b0 : (t300 != t303) = true := c15
      (try (have c15b1 : decide (t300 = t303) = false := by simpa using c15))
      (try (have c15b2 : (t300 == t303) = false := by simpa using c15))
      (try (have c15b3 : ¬ (t300 = t303) := by simpa using c15))
      clear c15
      have H' := Aside0.mk H
      clear H
      go_wp2
      go_meet
      case rel => exact ⟨_, (true), (by first | rfl | (simp; done) | (simp [*]; done)), H', ⟨by first | omega | exact Nat.le_refl _⟩, ⟨hB HB.out⟩⟩
     ·rw [if_neg c15] at H
      have c15b0 : (t300 != t303) = false := by simpa using c15
      (try (have c15b1 : decide (t300 = t303) = true := by simpa using c15))
      (try (have c15b2 : (t300 == t303) = true := by simpa using c15))
      clear c15
      by_cases c16 : t298 = t301
      ·rw [if_pos c16] at H
       have c16b0 : (t298 == t301) = true := beq_iff_eq.mpr c16
       have c16b1 : (t298 != t301) = false := bne_eq_false_iff_eq.mpr c16
       clear c16
       by_cases c17 : t299 = t302
       ·rw [if_pos c17] at H
        have c17b0 : (t299 == t302) = true := beq_iff_eq.mpr c17
        have c17b1 : (t299 != t302) = false := bne_eq_false_iff_eq.mpr c17
        clear c17
        have H' := Aside0.mk H
        clear H
        go_wp2
        go_meet
        case rel => exact ⟨_, ((t300 != t295)), (by first | rfl | (simp; done) | (simp [*]; done)), H', ⟨by first | omega | exact Nat.le_refl _⟩, ⟨hB HB.out⟩⟩
       ·rw [if_neg c17] at H
        have c17b0 : (t299 == t302) = false := beq_eq_false_iff_ne.mpr c17
        have c17b1 : (t299 != t302) = true := bne_iff_ne.mpr c17
        have H' := Aside0.mk H
        clear H
        go_wp2
        go_meet
        case rel => exact ⟨_, (true), (by first | rfl | (simp; done) | (simp [*]; done)), H', ⟨by first | omega | exact Nat.le_refl _⟩, ⟨hB HB.out⟩⟩
      ·rw [if_neg c16] at H
       have c16b0 : (t298 == t301) = false := beq_eq_false_iff_ne.mpr c16
       have c16b1 : (t298 != t301) = true := bne_iff_ne.mpr c16
       have H' := Aside0.mk H
       clear H
       go_wp2
       go_meet
       case rel => exact ⟨_, (true), (by first | rfl | (simp; done) | (simp [*]; done)), H', ⟨by first | omega | exact Nat.le_refl _⟩, ⟨hB HB.out⟩⟩
    ·rw [if_neg c14] at H
     have c14b0 : (t294 == t296) = false := beq_eq_false_iff_ne.mpr c14
     have c14b1 : (t294 != t296) = true := bne_iff_ne.mpr c14
     have H' := Aside0.mk H
     clear H
     go_wp2
     go_meet
     case rel => exact ⟨_, (true), (by first | rfl | (simp; done) | (simp [*]; done)), H', ⟨by first | omega | exact Nat.le_refl _⟩, ⟨hB HB.out⟩⟩
  case rest =>
   rename_i K1_ a1_ K0_ a0_
   exact a0_ _ _ (h1 k A0 c0 l0 A1 c1 l1 r w HR1 HC1 t291 t292 t293 t294 t295 t296 t297 t298 t299 t300 t301 t302 t303 u124 u125 u126 u127 u128 u129 u130 u131 u132 u133 u134 u135 u136 u137 u138 u139 u140 u141 u142 u143 u144 u145 u146 u147 u148 u149 u150 u151 wc hcut K1_ a1_)

end Go.Proofs.Ytojbcpklmegjpaa.QFnVisitsChance
