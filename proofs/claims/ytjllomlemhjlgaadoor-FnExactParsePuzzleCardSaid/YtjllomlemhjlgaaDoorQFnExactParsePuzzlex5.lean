-- written by a program of this session, over the form of the kit's print
import Derived.Test.YtjllomlemhjlgaaDoorQFnExactParsePuzzlex0
import Derived.Test.YtjllomlemhjlgaaDoorQFnExactParsePuzzlex1
import Derived.Test.YtjllomlemhjlgaaDoorQFnExactParsePuzzlex3
import Derived.Test.YtjllomlemhjlgaaDoorQFnExactParsePuzzlex4
namespace Go.Proofs.YtjllomlemhjlgaaDoor.QFnExactParsePuzzle
open Go.RowKit Go.Proofs.YtjllomlemhjlgaaDoorV Go.Proofs.YtjllomlemhjlgaaDoorW.PrintWords Go.Proofs.YtjllomlemhjlgaaDoorW.PrintLast Go.Proofs.YtjllomlemhjlgaaDoorW.PrintMore
attribute [local go_sem] max2_int min2_int max_two min_two max_three min_three max_four min_four   -- for this text's walks alone
set_option linter.unusedVariables false
set_option linter.unusedSimpArgs false

/-! ### spec_pzParse: function 41 -/
mutual
def spec_pzParse.l0 : Nat → ByteArray → List ByteArray → Int → Int → List (S64) → Option ((List (S64)) × Bool)
 | 0, _, _, _, _, _ => none
 | k + 1, x0, x17, x18, x19, x148000 => if x19 < x18 then (if 0 ≤ x19 then (if x19 < (x17.length : Int) then ((spec_l1Split.f k (rdOf ByteArray.empty x17 x19) 46).bind fun t154 => (if (t154.length : Int) = 3 then (if 2 < (t154.length : Int) then ((spec_l1Read.f k (rdOf ByteArray.empty t154 2)).bind fun t158 => (if ((rdOf ByteArray.empty t154 2).size : Int) > 1 then (if 0 < ((rdOf ByteArray.empty t154 2).size : Int) then (spec_pzParse.j1 k x0 t154 t158 x17 x18 x19 ((bt (rdOf ByteArray.empty t154 2) 0) == 45) x148000) else (none)) else (spec_pzParse.j1 k x0 t154 t158 x17 x18 x19 false x148000))) else (none)) else (some (([] : List (S64)), false)))) else (none)) else (none)) else ((spec_pzGood.f k x148000).bind fun t151 => (if t151 = true then ((spec_pzText.f k x148000).bind fun t152 => (some (x148000, (t152.toList == x0.toList)))) else (some (x148000, false))))
def spec_pzParse.j1 : Nat → ByteArray → List ByteArray → Int → List ByteArray → Int → Int → Bool → List (S64) → Option ((List (S64)) × Bool)
 | 0, _, _, _, _, _, _, _, _ => none
 | k + 1, x0, x7, x8, x17, x18, x19, x44, x148000 => if x44 = true then (if 2 < (x7.length : Int) then (if 1 ≤ ((rdOf ByteArray.empty x7 2).size : Int) then ((spec_l1Read.f k ((rdOf ByteArray.empty x7 2).extract 1 (rdOf ByteArray.empty x7 2).size)).bind fun t162 => (if 0 < (x7.length : Int) then ((spec_l1Read.f k (rdOf ByteArray.empty x7 0)).bind fun t164 => (if 1 < (x7.length : Int) then ((spec_l1Read.f k (rdOf ByteArray.empty x7 1)).bind fun t166 => (if x148000.length < 5864062014805 then (spec_pzParse.l0 k x0 x17 x18 (wrap64 (x19 + 1)) (x148000 ++ [(⟨t164, t166, wrap64 (-t162)⟩ : S64)])) else (none))) else (none))) else (none))) else (none)) else (none)) else (if 0 < (x7.length : Int) then ((spec_l1Read.f k (rdOf ByteArray.empty x7 0)).bind fun t171 => (if 1 < (x7.length : Int) then ((spec_l1Read.f k (rdOf ByteArray.empty x7 1)).bind fun t173 => (if x148000.length < 5864062014805 then (spec_pzParse.l0 k x0 x17 x18 (wrap64 (x19 + 1)) (x148000 ++ [(⟨t171, t173, x8⟩ : S64)])) else (none))) else (none))) else (none))
end
def spec_pzParse.f (k : Nat) (a0 : ByteArray) : Option ((List (S64)) × Bool) := if (a0.size : Int) > 100 then (some (([] : List (S64)), false)) else (if (a0.size : Int) > 0 then ((spec_l1Split.f k a0 44).bind fun t148 => (spec_pzParse.l0 k a0 t148 (t148.length : Int) 0 ([] : List (S64)))) else ((spec_pzGood.f k ([] : List (S64))).bind fun t177 => (if t177 = true then ((spec_pzText.f k ([] : List (S64))).bind fun t178 => (some (([] : List (S64)), (t178.toList == a0.toList)))) else (some (([] : List (S64)), false)))))
theorem spec_pzParse.mono_l : ∀ k, (∀ y0 y1 y2 y3 y4, LeO (spec_pzParse.l0 k y0 y1 y2 y3 y4) (spec_pzParse.l0 (k + 1) y0 y1 y2 y3 y4)) ∧ (∀ y0 y1 y2 y3 y4 y5 y6 y7, LeO (spec_pzParse.j1 k y0 y1 y2 y3 y4 y5 y6 y7) (spec_pzParse.j1 (k + 1) y0 y1 y2 y3 y4 y5 y6 y7))
 | 0 => ⟨fun _ _ _ _ _ r h => by simp [spec_pzParse.l0] at h, fun _ _ _ _ _ _ _ _ r h => by simp [spec_pzParse.j1] at h⟩
 | k + 1 => by
  obtain ⟨ih0, ih1⟩ := spec_pzParse.mono_l k
  refine ⟨?_, ?_⟩
  ·intro y0 y1 y2 y3 y4
   unfold spec_pzParse.l0
   repeat' first
   | (with_reducible exact ih0 _ _ _ _ _)
   | (with_reducible exact ih1 _ _ _ _ _ _ _ _)
   | (with_reducible exact spec_l1Read.mono _ _)
   | (with_reducible exact spec_l1Split.mono _ _ _)
   | (with_reducible exact spec_pzGood.mono _ _)
   | (with_reducible exact spec_pzText.mono _ _)
   | (with_reducible exact LeO.refl _)
   | (with_reducible exact LeO.none _)
   | (with_reducible refine LeO.ite ?_ ?_)
   | (with_reducible refine LeO.bind ?_ (fun _ => ?_))
   | exact ih0 _ _ _ _ _
   | exact ih1 _ _ _ _ _ _ _ _
   | exact spec_l1Read.mono _ _
   | exact spec_l1Split.mono _ _ _
   | exact spec_pzGood.mono _ _
   | exact spec_pzText.mono _ _
   | exact LeO.none _
   | refine LeO.ite ?_ ?_
   | refine LeO.bind ?_ (fun _ => ?_)
  ·intro y0 y1 y2 y3 y4 y5 y6 y7
   unfold spec_pzParse.j1
   repeat' first
   | (with_reducible exact ih0 _ _ _ _ _)
   | (with_reducible exact ih1 _ _ _ _ _ _ _ _)
   | (with_reducible exact spec_l1Read.mono _ _)
   | (with_reducible exact spec_l1Split.mono _ _ _)
   | (with_reducible exact spec_pzGood.mono _ _)
   | (with_reducible exact spec_pzText.mono _ _)
   | (with_reducible exact LeO.refl _)
   | (with_reducible exact LeO.none _)
   | (with_reducible refine LeO.ite ?_ ?_)
   | (with_reducible refine LeO.bind ?_ (fun _ => ?_))
   | exact ih0 _ _ _ _ _
   | exact ih1 _ _ _ _ _ _ _ _
   | exact spec_l1Read.mono _ _
   | exact spec_l1Split.mono _ _ _
   | exact spec_pzGood.mono _ _
   | exact spec_pzText.mono _ _
   | exact LeO.none _
   | refine LeO.ite ?_ ?_
   | refine LeO.bind ?_ (fun _ => ?_)
theorem spec_pzParse.mono : ∀ a0 k, LeO (spec_pzParse.f k a0) (spec_pzParse.f (k + 1) a0) := by
 intro a0 k
 obtain ⟨ih0, ih1⟩ := spec_pzParse.mono_l k
 unfold spec_pzParse.f
 repeat' first
   | (with_reducible exact ih0 _ _ _ _ _)
   | (with_reducible exact ih1 _ _ _ _ _ _ _ _)
   | (with_reducible exact spec_l1Read.mono _ _)
   | (with_reducible exact spec_l1Split.mono _ _ _)
   | (with_reducible exact spec_pzGood.mono _ _)
   | (with_reducible exact spec_pzText.mono _ _)
   | (with_reducible exact LeO.refl _)
   | (with_reducible exact LeO.none _)
   | (with_reducible refine LeO.ite ?_ ?_)
   | (with_reducible refine LeO.bind ?_ (fun _ => ?_))
   | exact ih0 _ _ _ _ _
   | exact ih1 _ _ _ _ _ _ _ _
   | exact spec_l1Read.mono _ _
   | exact spec_l1Split.mono _ _ _
   | exact spec_pzGood.mono _ _
   | exact spec_pzText.mono _ _
   | exact LeO.none _
   | refine LeO.ite ?_ ?_
   | refine LeO.bind ?_ (fun _ => ?_)
def spec_pzParse.T14 : Bool × List (List Nat × List Nat) := (true, [([], []), ([0], [0]), ([], []), ([2], [2]), ([3], [3]), ([4], [4]), ([], []), ([6], [6]), ([7], [7]), ([8, 5], [8]), ([], []), ([5, 9, 10], [5, 9, 10]), ([11], [11]), ([1, 12, 9], [1, 12]), ([0, 1, 2, 3, 4, 5, 6, 7, 8, 9, 10, 11, 12, 13], []), ([14, 13, 13, 0, 1, 2, 3, 4, 5, 6, 7, 8, 9, 10, 11, 12, 13], [13, 14])])
def spec_pzParse.B14 : List Nat := [0, 1, 0, 4, 12, 28, 0, 64, 192, 508, 0, 2044, 4092, 8191, 16383, 32767]
theorem spec_pzParse.tab14 : rtab .any (opsOf Tryd.f41 14) = spec_pzParse.T14 := by kernel_rfl
theorem spec_pzParse.bits14 : waitsOk spec_pzParse.T14.2 spec_pzParse.B14 = true := by kernel_rfl
def spec_pzParse.T16 : Bool × List (List Nat × List Nat) := (true, [([], []), ([], []), ([1], [1]), ([2, 2], [2]), ([3], [3]), ([4, 3, 3], [3, 4]), ([3], [3]), ([5, 6, 3], [3, 5, 6]), ([3, 7], [3, 7]), ([0, 5, 0], [0]), ([8, 9, 0, 1, 2, 3, 4, 5, 6, 7, 8, 9], [8])])
def spec_pzParse.B16 : List Nat := [0, 0, 2, 6, 14, 30, 14, 126, 254, 63, 1023]
theorem spec_pzParse.tab16 : rtab .any (opsOf Tryd.f41 16) = spec_pzParse.T16 := by kernel_rfl
theorem spec_pzParse.bits16 : waitsOk spec_pzParse.T16.2 spec_pzParse.B16 = true := by kernel_rfl
set_option maxHeartbeats 8000000 in
set_option maxRecDepth 100000 in
theorem spec_pzParse.calls (k : Nat) (a0 : ByteArray) (r1 : List (S64)) (r2 : Bool) (w : World) (h : spec_pzParse.f k a0 = some (r1, r2)) :
  Calls Tryd.prog 41 #[.string a0] w fun e w' => ∃ v0_ : Value, e = .returned (.tuple #[.agg #[v0_], .bool r2]) ∧ Kd.R k64 64 w' w.heap.size (fun _ => True) v0_ r1 ∧ Below w.heap.size w w' := by
 have hu37 := Tryd.underlying37
 have hu64 := Tryd.underlying64
 have HB := Aside0.mk (Below.refl w.heap.size w)
 have H : (if (a0.size : Int) > 100 then (some (([] : List (S64)), false)) else (if (a0.size : Int) > 0 then ((spec_l1Split.f k a0 44).bind fun t148 => (spec_pzParse.l0 k a0 t148 (t148.length : Int) 0 ([] : List (S64)))) else ((spec_pzGood.f k ([] : List (S64))).bind fun t177 => (if t177 = true then ((spec_pzText.f k ([] : List (S64))).bind fun t178 => (some (([] : List (S64)), (t178.toList == a0.toList)))) else (some (([] : List (S64)), false)))))) = some (r1, r2) := h
 clear h
 by_cases c2 : (a0.size : Int) > 100
 ·rw [if_pos c2] at H
  have c2b0 : decide (100 < (a0.size : Int)) = true := decide_eq_true c2
  have c2b1 : decide (100 < a0.size) = true := decide_eq_true (by omega)
  clear c2
  simp only [Option.some.injEq, Prod.mk.injEq] at H
  obtain ⟨rfl, rfl⟩ := H
  go_enter Tryd.func41, Tryd.ntmps41
  go_wp2_with (first | ((with_reducible refine gate_dst (N := 2) rfl ?_); refine box_event ?hg (N := 2) ?hd (cs := #[.slice none 0 0]) (t := 37) ?hr ?_; (case hd => rfl); (case hg => rfl); (case hr => first | (go_simp; done) | (go_simp; rfl)); intro gb146 hg w3 hbox hb; have n0_ := Aside0.mk (below_step (hB HB.out) hb); have n1_ := Aside0.mk (hbox); have n2_ := Aside0.mk ((by rw [hg]; exact (below_size (hB HB.out)) : w.heap.size ≤ gb146)); have n3_ := Aside0.mk ((by rw [hg]; exact (below_size (hB HB.out)) : w.heap.size ≤ gb146)); clear HB; have HB := n0_; have BK146 := n1_; have GW146 := n2_; have GE146 := n3_; clear n0_ n1_ n2_ n3_; clear hb hbox hg) | ((with_reducible refine gate_dst (N := 4) rfl ?_); refine box_event ?hg (N := 4) ?hd (cs := #[.slice none 0 0]) (t := 37) ?hr ?_; (case hd => rfl); (case hg => rfl); (case hr => first | (go_simp; done) | (go_simp; rfl)); intro gb147 hg w4 hbox hb; have n0_ := Aside0.mk (blk_below (g := gb146) (o := .cells #[.slice none 0 0] 37 (0, 0)) (bk BK146.out) hb); have n1_ := Aside0.mk (below_step (hB HB.out) hb); have n2_ := Aside0.mk (hbox); have n3_ := Aside0.mk ((by rw [hg]; exact (below_size (hB HB.out)) : w.heap.size ≤ gb147)); have n4_ := Aside0.mk ((by rw [hg]; exact (below_size (hB HB.out)) : w.heap.size ≤ gb147)); have n5_ := Aside0.mk ((by rw [hg]; exact Nat.ne_of_lt (blk_lt (g := gb146) (o := .cells #[.slice none 0 0] 37 (0, 0)) (bk BK146.out)) : gb146 ≠ gb147)); have n6_ := Aside0.mk ((by rw [hg]; exact Nat.ne_of_gt (blk_lt (g := gb146) (o := .cells #[.slice none 0 0] 37 (0, 0)) (bk BK146.out)) : gb147 ≠ gb146)); clear BK146; clear HB; have BK146 := n0_; have HB := n1_; have BK147 := n2_; have GW147 := n3_; have GE147 := n4_; have NB146_147 := n5_; have NB147_146 := n6_; clear n0_ n1_ n2_ n3_ n4_ n5_ n6_; clear hb hbox hg; have hnb5 := NB147_146.out; have hnc5 := NB146_147.out; have hcz6_0 : w4.cell? ⟨gb147, 0, none⟩ = some (.slice none 0 0) := (blk_cell BK147.out 0).trans rfl; have hfz6_0 := blk_frozen BK147.out 0; have hcz7_0 : w4.cell? ⟨gb146, 0, none⟩ = some (.slice none 0 0) := (blk_cell BK146.out 0).trans rfl; have hfz7_0 := blk_frozen BK146.out 0))
  refine bodyPost_ret (results_ct rfl _ _ gb146 37 #[.slice none 0 0] (0, 0) _ rfl (by (with_reducible repeat (first | refine blk_drewN ?_ _ | refine blk_drew ?_ | refine blk_alloc ?_ _)); refine blk_put (cs := #[.slice none 0 0]) ?_ 0 _ rfl; (with_reducible repeat (first | refine blk_drewN ?_ _ | refine blk_drew ?_ | refine blk_alloc ?_ _)); exact BK146.out) Tryd.underlying37 rfl (by kernel_rfl)) rfl ?_
  exact ⟨_, by first | rfl | (simp [errW_none, errW_some] <;> rfl) | (simp [*, errW_none, errW_some] <;> rfl), by first | exact Kd.R_nil _ _ _ _ _ | exact Kd.N_nil _ _ _ _ _ | exact Kd.V_nil _ _ _ _ _ | exact Kd.Q_nil _ _ _ _ _ | exact Kd.S_nil _ _ _ _ _, hB HB.out⟩
 ·rw [if_neg c2] at H
  have c2b0 : decide (100 < (a0.size : Int)) = false := decide_eq_false c2
  have c2b1 : decide (100 < a0.size) = false := decide_eq_false (by omega)
  clear c2
  by_cases c8 : (a0.size : Int) > 0
  ·rw [if_pos c8] at H
   have c8b0 : decide (0 < (a0.size : Int)) = true := decide_eq_true c8
   have c8b1 : decide (0 < a0.size) = true := decide_eq_true (by omega)
   clear c8
   replace H := Option.bind_eq_some_iff.mp H
   obtain ⟨t148, A90, H⟩ := H
   replace H : (spec_pzParse.l0 k a0 t148 (t148.length : Int) 0 ([] : List (S64))) = some (r1, r2) := H
   have A9 := Aside0.mk A90
   clear A90
   have H' := Aside0.mk H
   clear H
   go_enter Tryd.func41, Tryd.ntmps41
   go_wp2_with (first | ((with_reducible refine gate_dst (N := 2) rfl ?_); refine box_event ?hg (N := 2) ?hd (cs := #[.slice none 0 0]) (t := 37) ?hr ?_; (case hd => rfl); (case hg => rfl); (case hr => first | (go_simp; done) | (go_simp; rfl)); intro gb146 hg w10 hbox hb; have n0_ := Aside0.mk (below_step (hB HB.out) hb); have n1_ := Aside0.mk (hbox); have n2_ := Aside0.mk ((by rw [hg]; exact (below_size (hB HB.out)) : w.heap.size ≤ gb146)); have n3_ := Aside0.mk ((by rw [hg]; exact (below_size (hB HB.out)) : w.heap.size ≤ gb146)); clear HB; have HB := n0_; have BK146 := n1_; have GW146 := n2_; have GE146 := n3_; clear n0_ n1_ n2_ n3_; clear hb hbox hg) | ((with_reducible refine gate_dst (N := 4) rfl ?_); refine box_event ?hg (N := 4) ?hd (cs := #[.slice none 0 0]) (t := 37) ?hr ?_; (case hd => rfl); (case hg => rfl); (case hr => first | (go_simp; done) | (go_simp; rfl)); intro gb147 hg w11 hbox hb; have n0_ := Aside0.mk (blk_below (g := gb146) (o := .cells #[.slice none 0 0] 37 (0, 0)) (bk BK146.out) hb); have n1_ := Aside0.mk (below_step (hB HB.out) hb); have n2_ := Aside0.mk (hbox); have n3_ := Aside0.mk ((by rw [hg]; exact (below_size (hB HB.out)) : w.heap.size ≤ gb147)); have n4_ := Aside0.mk ((by rw [hg]; exact (below_size (hB HB.out)) : w.heap.size ≤ gb147)); have n5_ := Aside0.mk ((by rw [hg]; exact Nat.ne_of_lt (blk_lt (g := gb146) (o := .cells #[.slice none 0 0] 37 (0, 0)) (bk BK146.out)) : gb146 ≠ gb147)); have n6_ := Aside0.mk ((by rw [hg]; exact Nat.ne_of_gt (blk_lt (g := gb146) (o := .cells #[.slice none 0 0] 37 (0, 0)) (bk BK146.out)) : gb147 ≠ gb146)); clear BK146; clear HB; have BK146 := n0_; have HB := n1_; have BK147 := n2_; have GW147 := n3_; have GE147 := n4_; have NB146_147 := n5_; have NB147_146 := n6_; clear n0_ n1_ n2_ n3_ n4_ n5_ n6_; clear hb hbox hg) | ((with_reducible refine gate_callee (f := 60) rfl ?_); refine goesL_ (some 17) rfl rfl Tryd.func60 (by kernel_rfl) rfl #[.string a0, .int .u8 44] rfl (by (try simp only [List.map_toArray, List.map_cons, List.map_nil]); first | done | rfl | (simp only [List.length_drop, List.length_take]; rfl)) ?_; (with_reducible refine (spec_l1Split.calls k a0 44 t148 _ A9.out).mono ?_); rintro e w12 ⟨v149, rfl, ho0, hb⟩; refine ⟨_, rfl, ?_⟩; have n0_ := Aside0.mk (Kd.R_lower ho0 (below_size (hB HB.out))); have n1_ := Aside0.mk (blk_below (g := gb146) (o := .cells #[.slice none 0 0] 37 (0, 0)) (bk BK146.out) hb); have n2_ := Aside0.mk (blk_below (g := gb147) (o := .cells #[.slice none 0 0] 37 (0, 0)) (bk BK147.out) hb); have n3_ := Aside0.mk (below_step (hB HB.out) hb); clear BK146; clear BK147; clear HB; have HO150 := n0_; have BK146 := n1_; have BK147 := n2_; have HB := n3_; clear n0_ n1_ n2_ n3_; (try clear hb); (try clear hb2); (try clear hk); (try clear hi); (try clear ho0); obtain ⟨Ao13, co13, eo13⟩ := Kd.R_slice HO150.out; subst eo13))
   go_loopg [19] k (fun kq v19 w' => ∃ (x19_1 : Int) (x148000_1 : List (S64)) (u148000 : Value), v19 = .int .i64 x19_1 ∧ Aside0 (spec_pzParse.l0 kq a0 t148 (t148.length : Int) x19_1 x148000_1 = some (r1, r2)) ∧ Aside0 (kq ≤ k) ∧ Aside0 (Kd.R Kd.string 9 w' w.heap.size (fun _ => True) (.slice Ao13 t148.length co13) t148) ∧ Aside0 (Kd.R k64 64 w' w.heap.size (fun _ => True) u148000 x148000_1) ∧ Aside0 (w'.heap[gb146]? = some (.cells #[(.slice none 0 0)] 37 (0, 0))) ∧ Aside0 (w'.heap[gb147]? = some (.cells #[u148000] 37 (0, 0))) ∧ Aside0 (Below w.heap.size w w'))
   case atStart => exact ⟨(0), (([] : List (S64))), (.slice none 0 0), (by first | rfl | (simp; done) | (simp [*]; done)), H', ⟨Nat.le_refl _⟩, ⟨rk HO150.out⟩, ⟨by first | exact Kd.R_nil _ _ _ _ _ | exact Kd.N_nil _ _ _ _ _ | exact Kd.V_nil _ _ _ _ _ | exact Kd.Q_nil _ _ _ _ _ | exact Kd.S_nil _ _ _ _ _⟩, ⟨bk BK146.out⟩, ⟨bk BK147.out⟩, ⟨hB HB.out⟩⟩
   case round =>
    clear H'
    try clear c2
    try clear c2b0
    try clear c2b1
    try clear p2
    try clear c4
    try clear c5
    try clear c6
    try clear c8
    try clear c8b0
    try clear c8b1
    try clear hcz6_0
    try clear hcz7_0
    try clear hfz6_0
    try clear hfz7_0
    obtain ⟨x19_1, x148000_1, u148000, rfl, HA, HK1, HO_17, HO_148000, BK146, BK147, HB⟩ := hrel
    cases gk with
    | zero => exact absurd HA.out (by simp [spec_pzParse.l0])
    | succ k1 =>
     have H := HA.out
     clear HA
     simp only [spec_pzParse.l0] at H
     by_cases c14 : x19_1 < (t148.length : Int)
     ·rw [if_pos c14] at H
      have c14b0 : decide (x19_1 < (t148.length : Int)) = true := decide_eq_true c14
      clear c14
      by_cases c15 : 0 ≤ x19_1
      ·rw [if_pos c15] at H
       have c15b0 : decide (0 ≤ x19_1) = true := decide_eq_true c15
       clear c15
       by_cases c16 : x19_1 < (t148.length : Int)
       ·rw [if_pos c16] at H
        have c16b0 : decide (x19_1 < (t148.length : Int)) = true := decide_eq_true c16
        clear c16
        replace H := Option.bind_eq_some_iff.mp H
        obtain ⟨t154, A170, H⟩ := H
        replace H : (if (t154.length : Int) = 3 then (if 2 < (t154.length : Int) then ((spec_l1Read.f k1 (rdOf ByteArray.empty t154 2)).bind fun t158 => (if ((rdOf ByteArray.empty t154 2).size : Int) > 1 then (if 0 < ((rdOf ByteArray.empty t154 2).size : Int) then (spec_pzParse.j1 k1 a0 t154 t158 t148 (t148.length : Int) x19_1 ((bt (rdOf ByteArray.empty t154 2) 0) == 45) x148000_1) else (none)) else (spec_pzParse.j1 k1 a0 t154 t158 t148 (t148.length : Int) x19_1 false x148000_1))) else (none)) else (some (([] : List (S64)), false))) = some (r1, r2) := H
        have A17 := Aside0.mk A170
        clear A170
        by_cases c18 : (t154.length : Int) = 3
        ·rw [if_pos c18] at H
         have c18b0 : ((t154.length : Int) == 3) = true := beq_iff_eq.mpr c18
         have c18b1 : ((t154.length : Int) != 3) = false := bne_eq_false_iff_eq.mpr c18
         clear c18
         by_cases c19 : 2 < (t154.length : Int)
         ·rw [if_pos c19] at H
          have c19b0 : decide (2 < (t154.length : Int)) = true := decide_eq_true c19
          have c19b1 : decide (2 < t154.length) = true := decide_eq_true (by omega)
          clear c19
          replace H := Option.bind_eq_some_iff.mp H
          obtain ⟨t158, A200, H⟩ := H
          replace H : (if ((rdOf ByteArray.empty t154 2).size : Int) > 1 then (if 0 < ((rdOf ByteArray.empty t154 2).size : Int) then (spec_pzParse.j1 k1 a0 t154 t158 t148 (t148.length : Int) x19_1 ((bt (rdOf ByteArray.empty t154 2) 0) == 45) x148000_1) else (none)) else (spec_pzParse.j1 k1 a0 t154 t158 t148 (t148.length : Int) x19_1 false x148000_1)) = some (r1, r2) := H
          have A20 := Aside0.mk A200
          clear A200
          have HC21 := Aside0.mk H
          clear H
          have p153 : 0 ≤ (x19_1 : Int) := of_decide_eq_true (by first | (with_reducible assumption) | assumption)
          have q153 : x19_1 < (t148.length : Int) := of_decide_eq_true (by first | (with_reducible assumption) | assumption)
          obtain ⟨ad153, e153, hx153_0⟩ := Kd.at_string (Kd.R_reads' HO_17.out).2.2 x19_1 p153 q153
          cases e153
          replace p153 := eq_true p153
          replace q153 := eq_true q153
          go_upto_region 12 with (first | ((with_reducible refine gate_callee (f := 60) rfl ?_); refine goesL_ (some 24) rfl rfl Tryd.func60 (by kernel_rfl) rfl #[.string (rdOf ByteArray.empty t148 x19_1), .int .u8 46] rfl (by (try simp only [List.map_toArray, List.map_cons, List.map_nil]); first | done | rfl | (simp only [List.length_drop, List.length_take]; rfl)) ?_; (with_reducible refine (spec_l1Split.calls k1 (rdOf ByteArray.empty t148 x19_1) 46 t154 _ A17.out).mono ?_); rintro e w22 ⟨v155, rfl, ho0, hb⟩; refine ⟨_, rfl, ?_⟩; have n0_ := Aside0.mk (Kd.R_elder' (rk HO_17.out) (Kd.R_base ho0) hb); have n1_ := Aside0.mk (Kd.R_below (rk HO_148000.out) hb); have n2_ := Aside0.mk (Kd.R_lower (Kd.R_new' ho0 (Kd.R_lt (rk HO_17.out))) (below_size (hB HB.out))); have n3_ := Aside0.mk (blk_below (g := gb146) (o := .cells #[.slice none 0 0] 37 (0, 0)) (bk BK146.out) hb); have n4_ := Aside0.mk (blk_below (g := gb147) (o := .cells #[u148000] 37 (0, 0)) (bk BK147.out) hb); have n5_ := Aside0.mk (below_step (hB HB.out) hb); clear HO_17; clear HO_148000; clear BK146; clear BK147; clear HB; have HO_17 := n0_; have HO_148000 := n1_; have HO156 := n2_; have BK146 := n3_; have BK147 := n4_; have HB := n5_; clear n0_ n1_ n2_ n3_ n4_ n5_; (try clear hb); (try clear hb2); (try clear hk); (try clear hi); (try clear ho0); obtain ⟨Ao23, co23, eo23⟩ := Kd.R_slice HO156.out; subst eo23; have p157 : 0 ≤ (2 : Int) := (by omega); have q157 : 2 < (t154.length : Int) := of_decide_eq_true (by first | (with_reducible assumption) | assumption); obtain ⟨ad157, e157, hx157_0⟩ := Kd.at_string (Kd.R_reads' HO156.out).2.2 2 p157 q157; cases e157; (try simp only [show (2 : Int).toNat = 2 from rfl, Nat.reduceMul, Nat.reduceEqDiff, Go.Addr.add, ↓reduceIte] at hx157_0); have qi157 : (2 < t154.length) = True := eq_true (by omega); (try rw [show ((2 : Int)).toNat = 2 from rfl] at hx157_0); replace p157 := eq_true p157; replace q157 := eq_true q157) | ((with_reducible refine gate_callee (f := 61) rfl ?_); refine goesL_ (some 32) rfl rfl Tryd.func61 (by kernel_rfl) rfl #[.string (rdOf ByteArray.empty t154 2)] rfl (by (try simp only [List.map_toArray, List.map_cons, List.map_nil]); first | done | rfl | (simp only [List.length_drop, List.length_take]; rfl)) ?_; (with_reducible refine (spec_l1Read.calls k1 (rdOf ByteArray.empty t154 2) t158 _ A20.out).mono ?_); rintro e w' ⟨rfl, ⟨nd, rfl⟩⟩; refine ⟨_, rfl, ?_⟩))
          (try simp only [Act.put, List.setIfInBounds_toArray, List.set_cons_zero, List.set_cons_succ])
          go_cut [44] (fun v44 wc => ∃ (kq : Nat) (x44_20 : Bool), v44 = .bool x44_20 ∧ Aside0 (spec_pzParse.j1 kq a0 t154 t158 t148 (t148.length : Int) x19_1 x44_20 x148000_1 = some (r1, r2)) ∧ Aside0 (kq ≤ k1) ∧ Aside0 (Kd.R Kd.string 9 wc w.heap.size (fun k_ => some k_ ≠ ((.slice (some ad153) t148.length co13) : Value).ownBlock) (.slice (some ad157) t154.length co23) t154) ∧ Aside0 (Kd.R Kd.string 9 wc w.heap.size (fun k_ => some k_ ≠ ((.slice (some ad157) t154.length co23) : Value).ownBlock) (.slice (some ad153) t148.length co13) t148) ∧ Aside0 (Kd.R k64 64 wc w.heap.size (fun _ => True) u148000 x148000_1) ∧ Aside0 (wc.heap[gb146]? = some (.cells #[(.slice none 0 0)] 37 (0, 0))) ∧ Aside0 (wc.heap[gb147]? = some (.cells #[u148000] 37 (0, 0))) ∧ Aside0 (Below w.heap.size w wc))
          case first =>
           have H := HC21.out
           clear HC21
           by_cases c24 : ((rdOf ByteArray.empty t154 2).size : Int) > 1
           ·rw [if_pos c24] at H
            have c24b0 : decide (1 < ((rdOf ByteArray.empty t154 2).size : Int)) = true := decide_eq_true c24
            have c24b1 : decide (1 < (rdOf ByteArray.empty t154 2).size) = true := decide_eq_true (by omega)
            clear c24
            (first | rw [c24b0] | (simp only [i64_w, i32_w]; rw [c24b0]) | skip)
            by_cases c25 : 0 < ((rdOf ByteArray.empty t154 2).size : Int)
            ·rw [if_pos c25] at H
             have c25b0 : decide (0 < ((rdOf ByteArray.empty t154 2).size : Int)) = true := decide_eq_true c25
             have c25b1 : decide (0 < (rdOf ByteArray.empty t154 2).size) = true := decide_eq_true (by omega)
             clear c25
             have H' := Aside0.mk H
             clear H
             have p159 : 0 ≤ (2 : Int) := (by omega)
             have q159 : 2 < (t154.length : Int) := of_decide_eq_true (by first | (with_reducible assumption) | assumption)
             obtain ⟨ad159, e159, hx159_0⟩ := Kd.at_string (Kd.R_reads' HO156.out).2.2 2 p159 q159
             obtain rfl : ad157 = ad159 := (by injection e159)
             (try simp only [show (2 : Int).toNat = 2 from rfl, Nat.reduceMul, Nat.reduceEqDiff, Go.Addr.add, ↓reduceIte] at hx159_0)
             have qi159 : (2 < t154.length) = True := eq_true (by omega)
             (try rw [show ((2 : Int)).toNat = 2 from rfl] at hx159_0)
             replace p159 := eq_true p159
             replace q159 := eq_true q159
             have p160 : 0 ≤ (2 : Int) := (by omega)
             have q160 : 2 < (t154.length : Int) := of_decide_eq_true (by first | (with_reducible assumption) | assumption)
             obtain ⟨ad160, e160, hx160_0⟩ := Kd.at_string (Kd.R_reads' HO156.out).2.2 2 p160 q160
             obtain rfl : ad157 = ad160 := (by injection e160)
             (try simp only [show (2 : Int).toNat = 2 from rfl, Nat.reduceMul, Nat.reduceEqDiff, Go.Addr.add, ↓reduceIte] at hx160_0)
             have qi160 : (2 < t154.length) = True := eq_true (by omega)
             (try rw [show ((2 : Int)).toNat = 2 from rfl] at hx160_0)
             replace p160 := eq_true p160
             replace q160 := eq_true q160
             have p26 : 0 ≤ (0 : Int) := (by omega)
             have q26 : 0 < (rdOf ByteArray.empty t154 2).size := (by have : (0 : Int) < ((rdOf ByteArray.empty t154 2).size : Int) := of_decide_eq_true (by first | (with_reducible assumption) | assumption); omega)
             have hx26 : ∀ h : 0 < (rdOf ByteArray.empty t154 2).size, (((rdOf ByteArray.empty t154 2)[0]'h).toNat : Int) = bt (rdOf ByteArray.empty t154 2) 0 := bt_at (rdOf ByteArray.empty t154 2) 0
             clear p26
             have qi26 : (0 < ((rdOf ByteArray.empty t154 2).size : Int)) = True := eq_true (of_decide_eq_true (by first | (with_reducible assumption) | assumption))
             replace q26 := eq_true q26
             go_wp2
             go_meet
             case rel => exact ⟨_, (((bt (rdOf ByteArray.empty t154 2) 0) == 45)), (by first | rfl | (simp; done) | (simp [*]; done)), H', ⟨by have := HK1.out; first | omega | exact Nat.le_refl _⟩, ⟨rk (Kd.R_mono HO156.out (fun _ hk => hk.2))⟩, ⟨rk (Kd.R_mono HO_17.out (fun _ hk => hk.2))⟩, ⟨rk HO_148000.out⟩, ⟨bk BK146.out⟩, ⟨bk BK147.out⟩, ⟨hB HB.out⟩⟩
            ·rw [if_neg c25] at H
             exact absurd H (by simp)
           ·rw [if_neg c24] at H
            have c24b0 : decide (1 < ((rdOf ByteArray.empty t154 2).size : Int)) = false := decide_eq_false c24
            have c24b1 : decide (1 < (rdOf ByteArray.empty t154 2).size) = false := decide_eq_false (by omega)
            clear c24
            (first | rw [c24b0] | (simp only [i64_w, i32_w]; rw [c24b0]) | skip)
            have H' := Aside0.mk H
            clear H
            have p159 : 0 ≤ (2 : Int) := (by omega)
            have q159 : 2 < (t154.length : Int) := of_decide_eq_true (by first | (with_reducible assumption) | assumption)
            obtain ⟨ad159, e159, hx159_0⟩ := Kd.at_string (Kd.R_reads' HO156.out).2.2 2 p159 q159
            obtain rfl : ad157 = ad159 := (by injection e159)
            (try simp only [show (2 : Int).toNat = 2 from rfl, Nat.reduceMul, Nat.reduceEqDiff, Go.Addr.add, ↓reduceIte] at hx159_0)
            have qi159 : (2 < t154.length) = True := eq_true (by omega)
            (try rw [show ((2 : Int)).toNat = 2 from rfl] at hx159_0)
            replace p159 := eq_true p159
            replace q159 := eq_true q159
            go_wp2
            go_meet
            case rel => exact ⟨_, (false), (by first | rfl | (simp; done) | (simp [*]; done)), H', ⟨by have := HK1.out; first | omega | exact Nat.le_refl _⟩, ⟨rk (Kd.R_mono HO156.out (fun _ hk => hk.2))⟩, ⟨rk (Kd.R_mono HO_17.out (fun _ hk => hk.2))⟩, ⟨rk HO_148000.out⟩, ⟨bk BK146.out⟩, ⟨bk BK147.out⟩, ⟨hB HB.out⟩⟩
          case rest =>
           clear HC21
           try clear c1
           try clear p1
           try clear q1
           try clear hx1
           try clear qi1
           try clear c2
           try clear c2b0
           try clear c2b1
           try clear p2
           try clear q2
           try clear hx2
           try clear qi2
           try clear c4
           try clear c5
           try clear c6
           try clear c8
           try clear c8b0
           try clear c8b1
           try clear c14
           try clear c14b0
           try clear c15
           try clear c15b0
           try clear p15
           try clear q15
           try clear hx15
           try clear qi15
           try clear c16
           try clear c16b0
           try clear p16
           try clear q16
           try clear hx16
           try clear qi16
           try clear c18
           try clear c18b0
           try clear c18b1
           try clear c19
           try clear c19b0
           try clear c19b1
           try clear c24
           try clear c24b0
           try clear c24b1
           try clear c25
           try clear c25b0
           try clear c25b1
           try clear p26
           try clear q26
           try clear hx26
           try clear qi26
           try clear hcz6_0
           try clear hcz7_0
           try clear hfz6_0
           try clear hfz7_0
           try clear hx153_0
           try clear hx157_0
           try clear hx159_0
           try clear hx160_0
           try clear p153
           try clear p157
           try clear p159
           try clear p160
           try clear p2
           try clear p26
           try clear q153
           try clear q157
           try clear q159
           try clear q160
           try clear q26
           obtain ⟨kq, x44_20, rfl, HA, HJ20, HO_7, HO_17, HO_148000, BK146, BK147, HB⟩ := hcut
           cases kq with
           | zero => exact absurd HA.out (by simp [spec_pzParse.j1])
           | succ kj20 =>
            have H := HA.out
            clear HA
            simp only [spec_pzParse.j1] at H
            by_cases c27 : x44_20 = true
            ·subst c27
             have H1 : (if 2 < (t154.length : Int) then (if 1 ≤ ((rdOf ByteArray.empty t154 2).size : Int) then ((spec_l1Read.f kj20 ((rdOf ByteArray.empty t154 2).extract 1 (rdOf ByteArray.empty t154 2).size)).bind fun t162 => (if 0 < (t154.length : Int) then ((spec_l1Read.f kj20 (rdOf ByteArray.empty t154 0)).bind fun t164 => (if 1 < (t154.length : Int) then ((spec_l1Read.f kj20 (rdOf ByteArray.empty t154 1)).bind fun t166 => (if x148000_1.length < 5864062014805 then (spec_pzParse.l0 kj20 a0 t148 (t148.length : Int) (wrap64 (x19_1 + 1)) (x148000_1 ++ [(⟨t164, t166, wrap64 (-t162)⟩ : S64)])) else (none))) else (none))) else (none))) else (none)) else (none)) = some (r1, r2) := by rw [if_pos rfl] at H; exact H
             clear H
             have H := H1
             clear H1
             by_cases c28 : 2 < (t154.length : Int)
             ·rw [if_pos c28] at H
              have c28b0 : decide (2 < (t154.length : Int)) = true := decide_eq_true c28
              have c28b1 : decide (2 < t154.length) = true := decide_eq_true (by omega)
              clear c28
              by_cases c29 : 1 ≤ ((rdOf ByteArray.empty t154 2).size : Int)
              ·rw [if_pos c29] at H
               have c29b0 := eq_true c29
               have c29b1 : decide (1 ≤ ((rdOf ByteArray.empty t154 2).size : Int)) = true := decide_eq_true c29
               clear c29
               replace H := Option.bind_eq_some_iff.mp H
               obtain ⟨t162, A300, H⟩ := H
               replace H : (if 0 < (t154.length : Int) then ((spec_l1Read.f kj20 (rdOf ByteArray.empty t154 0)).bind fun t164 => (if 1 < (t154.length : Int) then ((spec_l1Read.f kj20 (rdOf ByteArray.empty t154 1)).bind fun t166 => (if x148000_1.length < 5864062014805 then (spec_pzParse.l0 kj20 a0 t148 (t148.length : Int) (wrap64 (x19_1 + 1)) (x148000_1 ++ [(⟨t164, t166, wrap64 (-t162)⟩ : S64)])) else (none))) else (none))) else (none)) = some (r1, r2) := H
               have A30 := Aside0.mk A300
               clear A300
               by_cases c31 : 0 < (t154.length : Int)
               ·rw [if_pos c31] at H
                have c31b0 : decide (0 < (t154.length : Int)) = true := decide_eq_true c31
                have c31b1 : decide (0 < t154.length) = true := decide_eq_true (by omega)
                clear c31
                replace H := Option.bind_eq_some_iff.mp H
                obtain ⟨t164, A320, H⟩ := H
                replace H : (if 1 < (t154.length : Int) then ((spec_l1Read.f kj20 (rdOf ByteArray.empty t154 1)).bind fun t166 => (if x148000_1.length < 5864062014805 then (spec_pzParse.l0 kj20 a0 t148 (t148.length : Int) (wrap64 (x19_1 + 1)) (x148000_1 ++ [(⟨t164, t166, wrap64 (-t162)⟩ : S64)])) else (none))) else (none)) = some (r1, r2) := H
                have A32 := Aside0.mk A320
                clear A320
                by_cases c33 : 1 < (t154.length : Int)
                ·rw [if_pos c33] at H
                 have c33b0 : decide (1 < (t154.length : Int)) = true := decide_eq_true c33
                 have c33b1 : decide (1 < t154.length) = true := decide_eq_true (by omega)
                 clear c33
                 replace H := Option.bind_eq_some_iff.mp H
                 obtain ⟨t166, A340, H⟩ := H
                 replace H : (if x148000_1.length < 5864062014805 then (spec_pzParse.l0 kj20 a0 t148 (t148.length : Int) (wrap64 (x19_1 + 1)) (x148000_1 ++ [(⟨t164, t166, wrap64 (-t162)⟩ : S64)])) else (none)) = some (r1, r2) := H
                 have A34 := Aside0.mk A340
                 clear A340
                 by_cases c35 : x148000_1.length < 5864062014805
                 ·rw [if_pos c35] at H
                  have LMc35 := Aside0.mk c35
                  clear c35
                  obtain ⟨y167, hy167⟩ : ∃ y_ : List (S64), y_ = (x148000_1 ++ [(⟨t164, t166, wrap64 (-t162)⟩ : S64)]) := ⟨_, rfl⟩
                  replace H : (spec_pzParse.l0 kj20 a0 t148 (t148.length : Int) (wrap64 (x19_1 + 1)) y167) = some (r1, r2) := by first | (rw [hy167]; with_reducible exact H) | (have H2_ := (Option.bind_some _ _).symm.trans H; rw [hy167]; with_reducible exact H2_) | (have H2_ := (Option.bind_some _ _).symm.trans H; with_reducible exact H2_) | with_reducible exact H | (rw [hy167]; exact H) | exact H
                  have Ny167 := Aside0.mk hy167
                  clear hy167
                  have H' := Aside0.mk H
                  clear H
                  have p161 : 0 ≤ (2 : Int) := (by omega)
                  have q161 : 2 < (t154.length : Int) := of_decide_eq_true (by first | (with_reducible assumption) | assumption)
                  obtain ⟨ad161, e161, hx161_0⟩ := Kd.at_string (Kd.R_reads' HO_7.out).2.2 2 p161 q161
                  obtain rfl : ad157 = ad161 := (by injection e161)
                  (try simp only [show (2 : Int).toNat = 2 from rfl, Nat.reduceMul, Nat.reduceEqDiff, Go.Addr.add, ↓reduceIte] at hx161_0)
                  have qi161 : (2 < t154.length) = True := eq_true (by omega)
                  (try rw [show ((2 : Int)).toNat = 2 from rfl] at hx161_0)
                  replace p161 := eq_true p161
                  replace q161 := eq_true q161
                  try go_wp2_with (first | ((with_reducible refine gate_callee (f := 61) rfl ?_); refine goesL_ (some 49) rfl rfl Tryd.func61 (by kernel_rfl) rfl #[.string ((rdOf ByteArray.empty t154 2).extract 1 (rdOf ByteArray.empty t154 2).size)] rfl (by (try simp only [List.map_toArray, List.map_cons, List.map_nil]); first | done | rfl | (simp only [List.length_drop, List.length_take]; rfl)) ?_; (with_reducible refine (spec_l1Read.calls kj20 ((rdOf ByteArray.empty t154 2).extract 1 (rdOf ByteArray.empty t154 2).size) t162 _ A30.out).mono ?_); rintro e w' ⟨rfl, ⟨nd, rfl⟩⟩; refine ⟨_, rfl, ?_⟩; (try (rw [drewN_self wc]; generalize hq_ : World.drewN wc _ = wc; have n0_ : Aside0 (Kd.R k64 64 wc w.heap.size (fun _ => True) u148000 x148000_1) := ⟨by rw [← hq_]; exact (rk HO_148000.out)⟩; have n1_ : Aside0 (Kd.R Kd.string 9 wc w.heap.size (fun k_ => some k_ ≠ (.slice (some ad157) t154.length co23 : Value).ownBlock) (.slice (some ad153) t148.length co13) t148) := ⟨by rw [← hq_]; exact (rk HO_17.out)⟩; have n2_ : Aside0 (Kd.R Kd.string 9 wc w.heap.size (fun k_ => some k_ ≠ (.slice (some ad153) t148.length co13 : Value).ownBlock) (.slice (some ad157) t154.length co23) t154) := ⟨by rw [← hq_]; exact (rk HO_7.out)⟩; have n3_ : Aside0 (wc.heap[gb146]? = some (.cells #[.slice none 0 0] 37 (0, 0))) := ⟨by rw [← hq_]; exact (bk BK146.out)⟩; have n4_ : Aside0 (wc.heap[gb147]? = some (.cells #[u148000] 37 (0, 0))) := ⟨by rw [← hq_]; exact (bk BK147.out)⟩; have n5_ : Aside0 (Below w.heap.size w wc) := ⟨by rw [← hq_]; exact (hB HB.out)⟩; clear HO_148000 HO_17 HO_7 BK146 BK147 HB hq_; have HO_148000 := n0_; have HO_17 := n1_; have HO_7 := n2_; have BK146 := n3_; have BK147 := n4_; have HB := n5_; have hcu146_0 : wc.cell? ⟨gb146, 0, none⟩ = some (.slice none 0 0) := (blk_cell BK146.out 0).trans rfl; have hfu146_0 := blk_frozen BK146.out 0; have hcu147_0 : wc.cell? ⟨gb147, 0, none⟩ = some (u148000) := (blk_cell BK147.out 0).trans rfl; have hfu147_0 := blk_frozen BK147.out 0; clear n0_ n1_ n2_ n3_ n4_ n5_))))
                  have n0_ := Aside0.mk (Kd.R_drew HO_7.out)
                  have n1_ := Aside0.mk (Kd.R_drew HO_17.out)
                  have n2_ := Aside0.mk (Kd.R_drew HO_148000.out)
                  have n3_ := Aside0.mk (blk_drew BK146.out)
                  have n4_ := Aside0.mk (blk_drew BK147.out)
                  have n5_ := Aside0.mk (below_drew1 HB.out)
                  clear HO_7
                  clear HO_17
                  clear HO_148000
                  clear BK146
                  clear BK147
                  clear HB
                  have HO_7 := n0_
                  have HO_17 := n1_
                  have HO_148000 := n2_
                  have BK146 := n3_
                  have BK147 := n4_
                  have HB := n5_
                  clear n0_ n1_ n2_ n3_ n4_ n5_
                  have p163 : 0 ≤ (0 : Int) := (by omega)
                  have q163 : 0 < (t154.length : Int) := of_decide_eq_true (by first | (with_reducible assumption) | assumption)
                  obtain ⟨ad163, e163, hx163_0⟩ := Kd.at_string (Kd.R_reads' HO_7.out).2.2 0 p163 q163
                  obtain rfl : ad157 = ad163 := (by injection e163)
                  have qi163 : (0 < t154.length) = True := eq_true (by omega)
                  (try rw [show ((0 : Int)).toNat = 0 from rfl] at hx163_0)
                  (try rw [Addr.add_zero'] at hx163_0)
                  replace p163 := eq_true p163
                  replace q163 := eq_true q163
                  have p165 : 0 ≤ (1 : Int) := (by omega)
                  have q165 : 1 < (t154.length : Int) := of_decide_eq_true (by first | (with_reducible assumption) | assumption)
                  obtain ⟨ad165, e165, hx165_0⟩ := Kd.at_string (Kd.R_reads' HO_7.out).2.2 1 p165 q165
                  obtain rfl : ad157 = ad165 := (by injection e165)
                  (try simp only [show (1 : Int).toNat = 1 from rfl, Nat.reduceMul, Nat.reduceEqDiff, Go.Addr.add, ↓reduceIte] at hx165_0)
                  have qi165 : (1 < t154.length) = True := eq_true (by omega)
                  (try rw [show ((1 : Int)).toNat = 1 from rfl] at hx165_0)
                  replace p165 := eq_true p165
                  replace q165 := eq_true q165
                  refine start_ (n := 16) (S := fun w' => w'.cell? ⟨gb147, 0, none⟩ = some (u148000) ∧ w'.cell? ad157 = some (.string (rdOf ByteArray.empty t154 0)) ∧ w'.cell? ⟨ad157.block, ad157.off + 1, none⟩ = some (.string (rdOf ByteArray.empty t154 1))) (ds := [13, 15]) #[false, false, false, false, false, false, false, false, false, false, false, false, false, false, false, false] (by kernel_rfl) rfl rfl ⟨(blk_cell BK147.out 0).trans rfl, hx163_0, hx165_0⟩ (fun hHeld => ?_); refine with_tabW spec_pzParse.tab14 spec_pzParse.bits14 (fun HT_ HW_ => ?_)
                  generalize wc.drew = w36 at HO_7 HO_17 HO_148000 BK146 BK147 HB hx163_0 hx165_0 hHeld ⊢
                  refine pure_ (i := 0) (N := some 51) (v := ?_) (a' := ?_) #[true, false, false, false, false, false, false, false, false, false, false, false, false, false, false, false] rfl rfl (any_of HT_.out (by kernel_rfl)) (fun _ _ _ h => h) (Or.inl ⟨by rfl, ?_⟩) ?_ ?_
                  rotate_left
                  ·intro w'
                   go_simp
                   with_reducible rfl
                  rotate_left
                  ·simp only [Act.put, List.setIfInBounds_toArray, List.set_cons_zero, List.set_cons_succ, i64_w, i32_w]
                   rfl
                  refine pure_ (i := 2) (N := some 53) (v := ?_) (a' := ?_) #[true, false, true, false, false, false, false, false, false, false, false, false, false, false, false, false] rfl rfl (any_of HT_.out (by kernel_rfl)) (fun _ _ _ h => h) (Or.inl ⟨by rfl, ?_⟩) ?_ ?_
                  rotate_left
                  ·intro w'
                   go_simp
                   with_reducible rfl
                  rotate_left
                  ·simp only [Act.put, List.setIfInBounds_toArray, List.set_cons_zero, List.set_cons_succ, i64_w, i32_w]
                   rfl
                  refine pure_ (i := 3) (N := some 54) (v := ?_) (a' := ?_) #[true, false, true, true, false, false, false, false, false, false, false, false, false, false, false, false] rfl rfl (any_of HT_.out (by kernel_rfl)) (fun _ _ _ h => h) (Or.inl ⟨by rfl, ?_⟩) ?_ ?_
                  rotate_left
                  ·intro w'
                   go_simp
                   with_reducible rfl
                  rotate_left
                  ·simp only [Act.put, List.setIfInBounds_toArray, List.set_cons_zero, List.set_cons_succ, i64_w, i32_w]
                   rfl
                  refine pure_ (i := 6) (N := some 57) (v := ?_) (a' := ?_) #[true, false, true, true, false, false, true, false, false, false, false, false, false, false, false, false] rfl rfl (any_of HT_.out (by kernel_rfl)) (fun _ _ _ h => h) (Or.inl ⟨by rfl, ?_⟩) ?_ ?_
                  rotate_left
                  ·intro w'
                   go_simp
                   with_reducible rfl
                  rotate_left
                  ·simp only [Act.put, List.setIfInBounds_toArray, List.set_cons_zero, List.set_cons_succ, i64_w, i32_w]
                   rfl
                  refine pure_ (i := 7) (N := some 58) (v := ?_) (a' := ?_) #[true, false, true, true, false, false, true, true, false, false, false, false, false, false, false, false] rfl rfl (any_of HT_.out (by kernel_rfl)) (fun _ _ _ h => h) (Or.inl ⟨by rfl, ?_⟩) ?_ ?_
                  rotate_left
                  ·intro w'
                   go_simp
                   with_reducible rfl
                  rotate_left
                  ·simp only [Act.put, List.setIfInBounds_toArray, List.set_cons_zero, List.set_cons_succ, i64_w, i32_w]
                   rfl
                  refine pure_ (i := 10) (N := some 61) (v := ?_) (a' := ?_) #[true, false, true, true, false, false, true, true, false, false, true, false, false, false, false, false] rfl rfl (any_of HT_.out (by kernel_rfl)) (fun _ _ _ h => h) (Or.inl ⟨by rfl, ?_⟩) ?_ ?_
                  rotate_left
                  ·intro w'
                   go_simp
                   with_reducible rfl
                  rotate_left
                  ·simp only [Act.put, List.setIfInBounds_toArray, List.set_cons_zero, List.set_cons_succ, i64_w, i32_w]
                   rfl
                  refine take_ (i := 1) (N := some 52) (v := ?_) (a' := ?_) #[true, true, true, true, false, false, true, true, false, false, true, false, false, false, false, false] rfl rfl (take_ofW HT_.out HW_.out (by kernel_rfl)) (fun _ _ _ h => h) (Or.inl ⟨by rfl, ?_⟩) hHeld ?_ ?_
                  rotate_left
                  ·rintro w' ⟨s0, s1, s2⟩
                   go_simp
                   with_reducible rfl
                  rotate_left
                  ·simp only [Act.put, List.setIfInBounds_toArray, List.set_cons_zero, List.set_cons_succ, i64_w, i32_w]
                   rfl
                  refine take_ (i := 4) (N := some 55) (v := ?_) (a' := ?_) #[true, true, true, true, true, false, true, true, false, false, true, false, false, false, false, false] rfl rfl (take_ofW HT_.out HW_.out (by kernel_rfl)) (fun _ _ _ h => h) (Or.inl ⟨by rfl, ?_⟩) hHeld ?_ ?_
                  rotate_left
                  ·rintro w' ⟨s0, s1, s2⟩
                   go_simp
                   with_reducible rfl
                  rotate_left
                  ·simp only [Act.put, List.setIfInBounds_toArray, List.set_cons_zero, List.set_cons_succ, i64_w, i32_w]
                   rfl
                  refine take_ (i := 8) (N := some 59) (v := ?_) (a' := ?_) #[true, true, true, true, true, false, true, true, true, false, true, false, false, false, false, false] rfl rfl (take_ofW HT_.out HW_.out (by kernel_rfl)) (fun _ _ _ h => h) (Or.inl ⟨by rfl, ?_⟩) hHeld ?_ ?_
                  rotate_left
                  ·rintro w' ⟨s0, s1, s2⟩
                   go_simp
                   with_reducible rfl
                  rotate_left
                  ·simp only [Act.put, List.setIfInBounds_toArray, List.set_cons_zero, List.set_cons_succ, i64_w, i32_w]
                   rfl
                  refine one_ (i := 5) (N := some 56) #[true, true, true, true, true, true, true, true, true, false, true, false, false, false, false, false] rfl rfl (one_of HT_.out (by kernel_rfl)) (by decide) (fun K hK => ?_)
                  refine goes_ Tryd.func61 (by kernel_rfl) rfl #[.string (rdOf ByteArray.empty t154 0)] (by rfl) rfl rfl (by (try simp only [List.map_toArray, List.map_cons, List.map_nil]); first | done | rfl | (simp only [List.length_drop, List.length_take]; rfl)) ?_
                  with_reducible refine (spec_l1Read.calls kj20 (rdOf ByteArray.empty t154 0) t164 _ A32.out).mono ?_
                  rintro e w' ⟨rfl, ⟨nd, rfl⟩⟩
                  refine ⟨_, rfl, ?_⟩
                  refine hK.out _ _ ⟨(blk_cell BK147.out 0).trans rfl, hHeld.2.1, hHeld.2.2⟩ (fun hHeld => ?_)
                  clear hK K
                  refine norm_ (a' := ?_) ?_ ?_
                  rotate_left
                  ·show Act.put _ (some 56) _ = _
                   simp only [Act.put, List.setIfInBounds_toArray, List.set_cons_zero, List.set_cons_succ, i64_w, i32_w]
                   rfl
                  refine one_ (i := 9) (N := some 60) #[true, true, true, true, true, true, true, true, true, true, true, false, false, false, false, false] rfl rfl (one_of HT_.out (by kernel_rfl)) (by decide) (fun K hK => ?_)
                  refine goes_ Tryd.func61 (by kernel_rfl) rfl #[.string (rdOf ByteArray.empty t154 1)] (by rfl) rfl rfl (by (try simp only [List.map_toArray, List.map_cons, List.map_nil]); first | done | rfl | (simp only [List.length_drop, List.length_take]; rfl)) ?_
                  with_reducible refine (spec_l1Read.calls kj20 (rdOf ByteArray.empty t154 1) t166 _ A34.out).mono ?_
                  rintro e w' ⟨rfl, ⟨nd, rfl⟩⟩
                  refine ⟨_, rfl, ?_⟩
                  refine hK.out _ _ ⟨(blk_cell BK147.out 0).trans rfl, hHeld.2.1, hHeld.2.2⟩ (fun hHeld => ?_)
                  clear hK K
                  refine norm_ (a' := ?_) ?_ ?_
                  rotate_left
                  ·show Act.put _ (some 60) _ = _
                   simp only [Act.put, List.setIfInBounds_toArray, List.set_cons_zero, List.set_cons_succ, i64_w, i32_w]
                   rfl
                  refine pure_ (i := 11) (N := some 62) (v := ?_) (a' := ?_) #[true, true, true, true, true, true, true, true, true, true, true, true, false, false, false, false] rfl rfl (any_of HT_.out (by kernel_rfl)) (fun _ _ _ h => h) (Or.inl ⟨by rfl, ?_⟩) ?_ ?_
                  rotate_left
                  ·intro w'
                   go_simp
                   with_reducible rfl
                  rotate_left
                  ·simp only [Act.put, List.setIfInBounds_toArray, List.set_cons_zero, List.set_cons_succ, i64_w, i32_w]
                   rfl
                  refine one_ (i := 12) (N := some 63) #[true, true, true, true, true, true, true, true, true, true, true, true, true, false, false, false] rfl rfl (one_of HT_.out (by kernel_rfl)) (by decide) (fun K hK => ?_)
                  refine value_ (w1 := ?_) (v := ?_) (by rfl) rfl ?_ ?_
                  rotate_left 2
                  ·go_simp
                   constructor
                   ·rfl
                   ·rfl
                  refine hK.out _ _ ⟨(blk_cell (blk_alloc BK147.out _) 0).trans rfl, (World.cell?_alloc_lt _ _ _ (World.block_lt_of_cell? _ _ (hHeld.2.1))).trans (hHeld.2.1), (World.cell?_alloc_lt _ _ _ (World.block_lt_of_cell? _ _ (hHeld.2.2))).trans (hHeld.2.2)⟩ (fun hHeld => ?_)
                  clear hK K
                  refine norm_ (a' := ?_) ?_ ?_
                  rotate_left
                  ·show Act.put _ (some 63) _ = _
                   simp only [Act.put, List.setIfInBounds_toArray, List.set_cons_zero, List.set_cons_succ, i64_w, i32_w]
                   rfl
                  refine last_ (i := 13) (N := some 64) #[true, true, true, true, true, true, true, true, true, true, true, true, true, true, false, false] rfl rfl (one_of HT_.out (by kernel_rfl)) (by decide) (fun K hK => ?_)
                  refine Kd.R_append_step k64 (w0 := w) w.heap.size (by rfl) (.tmp 52) (.tmp 63) 35 64 (.agg #[(.int .i64 0), (.int .i64 0), (.int .i64 0)]) 24 rfl Tryd.underlying35 info64 rfl (by decide) (by omega) u148000 x148000_1 (⟨t164, t166, wrap64 (-t162)⟩ : S64) [.int .i64 t164, .int .i64 t166, .int .i64 (wrap64 (-t162))] (fun _ => True) (fun _ => False) rfl rfl ?aP (fun _ hk => hk.elim) ?aF ?aO ?aB ?aS ?aL ?_
                  (case aP => exact k64_mkM _ _ _ (⟨t164, t166, wrap64 (-t162)⟩ : S64))
                  (case aB => exact (hB HB.out))
                  (case aF => exact (fun _ _ => trivial))
                  (case aO => exact (rk HO_148000.out))
                  (case aS => exact (below_size (hB HB.out)))
                  (case aL => have := LMc35.out; omega)
                  intro v168 w37 ho hb hg hat
                  rw [← Ny167.out] at ho
                  have n0_ := Aside0.mk (Kd.R_over' (rk HO_7.out) (Kd.R_typed (rk HO_148000.out)) (by decide) hg)
                  have n1_ := Aside0.mk (Kd.R_over' (rk HO_17.out) (Kd.R_typed (rk HO_148000.out)) (by decide) hg)
                  have n2_ := Aside0.mk (blk_grown (g := gb146) (o := .cells #[.slice none 0 0] 37 (0, 0)) (bk BK146.out) hg (Kd.R_ne HO_148000.out BK146.out (by decide)))
                  have n3_ := Aside0.mk (blk_grown (g := gb147) (o := .cells #[u148000] 37 (0, 0)) (bk BK147.out) hg (Kd.R_ne HO_148000.out BK147.out (by decide)))
                  have n4_ := Aside0.mk (hb)
                  have n5_ := Aside0.mk (ho)
                  clear HO_7
                  clear HO_17
                  clear BK146
                  clear BK147
                  clear HB
                  clear HO_148000
                  have HO_7 := n0_
                  have HO_17 := n1_
                  have BK146 := n2_
                  have BK147 := n3_
                  have HB := n4_
                  have HO169 := n5_
                  clear n0_ n1_ n2_ n3_ n4_ n5_
                  clear ho hb hg hat
                  obtain ⟨Ao38, co38, eo38⟩ := Kd.R_slice HO169.out
                  (first | subst eo38 | (injection eo38 with f1_ f2_ f3_; have f4_ := f1_.symm; have f5_ := f3_.symm; clear f1_ f2_ f3_; subst f4_; subst f5_))
                  refine hK.out _ _ ?_
                  clear hK K
                  refine norm_ (a' := ?_) ?_ ?_
                  rotate_left
                  ·show Act.put _ (some 64) _ = _
                   simp only [Act.put, List.setIfInBounds_toArray, List.set_cons_zero, List.set_cons_succ, i64_w, i32_w]
                   rfl
                  refine pure_ (i := 14) (N := some 65) (v := ?_) (a' := ?_) #[true, true, true, true, true, true, true, true, true, true, true, true, true, true, true, false] rfl rfl (any_of HT_.out (by kernel_rfl)) (fun _ _ _ h => h) (Or.inl ⟨by rfl, ?_⟩) ?_ ?_
                  rotate_left
                  ·intro w'
                   go_simp
                   with_reducible rfl
                  rotate_left
                  ·simp only [Act.put, List.setIfInBounds_toArray, List.set_cons_zero, List.set_cons_succ, i64_w, i32_w]
                   rfl
                  refine last_ (i := 15) (N := none) #[true, true, true, true, true, true, true, true, true, true, true, true, true, true, true, true] rfl rfl (one_of HT_.out (by kernel_rfl)) (by decide) (fun K hK => ?_)
                  have hs39 : w37.cell? ⟨gb147, 0, none⟩ = some (u148000) := (blk_cell BK147.out 0).trans rfl
                  have hfs39 := blk_frozen BK147.out 0
                  have hns39_0 := NB146_147.out
                  have hms39_0 := NB147_146.out
                  refine skip_ (w1 := ?_) (by rfl) rfl ?_ ?_
                  rotate_left
                  ·go_simp
                   rfl
                  refine hK.out _ _ ?_
                  clear hK K
                  refine done_ (done_of HT_.out (by kernel_rfl)) ?_
                  try go_wp2
                  go_roundg kj20
                  case measure => have := HK1.out; have := HJ20.out; omega
                  case rel => exact ⟨(wrap64 (x19_1 + 1)), (y167), (.slice Ao38 y167.length co38), (by first | rfl | (simp; done) | (simp [*]; done)), H', ⟨by have := HK1.out; have := HJ20.out; omega⟩, ⟨rk (Kd.R_mono (Kd.R_far (p := ⟨gb147, 0, none⟩) (Kd.R_types HO_17.out BK147.out (by decide)) (fun _ hk => hk.2) (.slice Ao38 y167.length co38)) (fun _ hk => trivial))⟩, ⟨rk (Kd.R_mono (Kd.R_far (p := ⟨gb147, 0, none⟩) (Kd.R_types HO169.out BK147.out (by decide)) (fun _ hk => hk.2) (.slice Ao38 y167.length co38)) (fun _ hk => trivial))⟩, ⟨by (with_reducible repeat (first | refine blk_drewN ?_ _ | refine blk_drew ?_ | refine blk_alloc ?_ _)); refine blk_far ?_ NB146_147.out _; (with_reducible repeat (first | refine blk_drewN ?_ _ | refine blk_drew ?_ | refine blk_alloc ?_ _)); exact BK146.out⟩, ⟨by (with_reducible repeat (first | refine blk_drewN ?_ _ | refine blk_drew ?_ | refine blk_alloc ?_ _)); refine blk_put (cs := #[u148000]) ?_ 0 _ rfl; (with_reducible repeat (first | refine blk_drewN ?_ _ | refine blk_drew ?_ | refine blk_alloc ?_ _)); exact BK147.out⟩, ⟨hB HB.out⟩⟩
                 ·rw [if_neg c35] at H
                  exact absurd H (by simp)
                ·rw [if_neg c33] at H
                 exact absurd H (by simp)
               ·rw [if_neg c31] at H
                exact absurd H (by simp)
              ·rw [if_neg c29] at H
               exact absurd H (by simp)
             ·rw [if_neg c28] at H
              exact absurd H (by simp)
            ·replace c27 := Bool.eq_false_iff.mpr c27
             subst c27
             have H1 : (if 0 < (t154.length : Int) then ((spec_l1Read.f kj20 (rdOf ByteArray.empty t154 0)).bind fun t171 => (if 1 < (t154.length : Int) then ((spec_l1Read.f kj20 (rdOf ByteArray.empty t154 1)).bind fun t173 => (if x148000_1.length < 5864062014805 then (spec_pzParse.l0 kj20 a0 t148 (t148.length : Int) (wrap64 (x19_1 + 1)) (x148000_1 ++ [(⟨t171, t173, t158⟩ : S64)])) else (none))) else (none))) else (none)) = some (r1, r2) := by rw [if_neg (show ¬ (false = true) by decide)] at H; exact H
             clear H
             have H := H1
             clear H1
             by_cases c40 : 0 < (t154.length : Int)
             ·rw [if_pos c40] at H
              have c40b0 : decide (0 < (t154.length : Int)) = true := decide_eq_true c40
              have c40b1 : decide (0 < t154.length) = true := decide_eq_true (by omega)
              clear c40
              replace H := Option.bind_eq_some_iff.mp H
              obtain ⟨t171, A410, H⟩ := H
              replace H : (if 1 < (t154.length : Int) then ((spec_l1Read.f kj20 (rdOf ByteArray.empty t154 1)).bind fun t173 => (if x148000_1.length < 5864062014805 then (spec_pzParse.l0 kj20 a0 t148 (t148.length : Int) (wrap64 (x19_1 + 1)) (x148000_1 ++ [(⟨t171, t173, t158⟩ : S64)])) else (none))) else (none)) = some (r1, r2) := H
              have A41 := Aside0.mk A410
              clear A410
              by_cases c42 : 1 < (t154.length : Int)
              ·rw [if_pos c42] at H
               have c42b0 : decide (1 < (t154.length : Int)) = true := decide_eq_true c42
               have c42b1 : decide (1 < t154.length) = true := decide_eq_true (by omega)
               clear c42
               replace H := Option.bind_eq_some_iff.mp H
               obtain ⟨t173, A430, H⟩ := H
               replace H : (if x148000_1.length < 5864062014805 then (spec_pzParse.l0 kj20 a0 t148 (t148.length : Int) (wrap64 (x19_1 + 1)) (x148000_1 ++ [(⟨t171, t173, t158⟩ : S64)])) else (none)) = some (r1, r2) := H
               have A43 := Aside0.mk A430
               clear A430
               by_cases c44 : x148000_1.length < 5864062014805
               ·rw [if_pos c44] at H
                have LMc44 := Aside0.mk c44
                clear c44
                obtain ⟨y174, hy174⟩ : ∃ y_ : List (S64), y_ = (x148000_1 ++ [(⟨t171, t173, t158⟩ : S64)]) := ⟨_, rfl⟩
                replace H : (spec_pzParse.l0 kj20 a0 t148 (t148.length : Int) (wrap64 (x19_1 + 1)) y174) = some (r1, r2) := by first | (rw [hy174]; with_reducible exact H) | (have H2_ := (Option.bind_some _ _).symm.trans H; rw [hy174]; with_reducible exact H2_) | (have H2_ := (Option.bind_some _ _).symm.trans H; with_reducible exact H2_) | with_reducible exact H | (rw [hy174]; exact H) | exact H
                have Ny174 := Aside0.mk hy174
                clear hy174
                have H' := Aside0.mk H
                clear H
                try go_wp2
                have n0_ := Aside0.mk (Kd.R_drew HO_7.out)
                have n1_ := Aside0.mk (Kd.R_drew HO_17.out)
                have n2_ := Aside0.mk (Kd.R_drew HO_148000.out)
                have n3_ := Aside0.mk (blk_drew BK146.out)
                have n4_ := Aside0.mk (blk_drew BK147.out)
                have n5_ := Aside0.mk (below_drew1 HB.out)
                clear HO_7
                clear HO_17
                clear HO_148000
                clear BK146
                clear BK147
                clear HB
                have HO_7 := n0_
                have HO_17 := n1_
                have HO_148000 := n2_
                have BK146 := n3_
                have BK147 := n4_
                have HB := n5_
                clear n0_ n1_ n2_ n3_ n4_ n5_
                have p170 : 0 ≤ (0 : Int) := (by omega)
                have q170 : 0 < (t154.length : Int) := of_decide_eq_true (by first | (with_reducible assumption) | assumption)
                obtain ⟨ad170, e170, hx170_0⟩ := Kd.at_string (Kd.R_reads' HO_7.out).2.2 0 p170 q170
                obtain rfl : ad157 = ad170 := (by injection e170)
                have qi170 : (0 < t154.length) = True := eq_true (by omega)
                (try rw [show ((0 : Int)).toNat = 0 from rfl] at hx170_0)
                (try rw [Addr.add_zero'] at hx170_0)
                replace p170 := eq_true p170
                replace q170 := eq_true q170
                have p172 : 0 ≤ (1 : Int) := (by omega)
                have q172 : 1 < (t154.length : Int) := of_decide_eq_true (by first | (with_reducible assumption) | assumption)
                obtain ⟨ad172, e172, hx172_0⟩ := Kd.at_string (Kd.R_reads' HO_7.out).2.2 1 p172 q172
                obtain rfl : ad157 = ad172 := (by injection e172)
                (try simp only [show (1 : Int).toNat = 1 from rfl, Nat.reduceMul, Nat.reduceEqDiff, Go.Addr.add, ↓reduceIte] at hx172_0)
                have qi172 : (1 < t154.length) = True := eq_true (by omega)
                (try rw [show ((1 : Int)).toNat = 1 from rfl] at hx172_0)
                replace p172 := eq_true p172
                replace q172 := eq_true q172
                refine start_ (n := 16) (S := fun w' => w'.cell? ⟨gb147, 0, none⟩ = some (u148000) ∧ w'.cell? ad157 = some (.string (rdOf ByteArray.empty t154 0)) ∧ w'.cell? ⟨ad157.block, ad157.off + 1, none⟩ = some (.string (rdOf ByteArray.empty t154 1))) (ds := [13, 15]) #[false, false, false, false, false, false, false, false, false, false, false, false, false, false, false, false] (by kernel_rfl) rfl rfl ⟨(blk_cell BK147.out 0).trans rfl, hx170_0, hx172_0⟩ (fun hHeld => ?_); refine with_tabW spec_pzParse.tab14 spec_pzParse.bits14 (fun HT_ HW_ => ?_)
                generalize wc.drew = w45 at HO_7 HO_17 HO_148000 BK146 BK147 HB hx170_0 hx172_0 hHeld ⊢
                refine pure_ (i := 0) (N := some 51) (v := ?_) (a' := ?_) #[true, false, false, false, false, false, false, false, false, false, false, false, false, false, false, false] rfl rfl (any_of HT_.out (by kernel_rfl)) (fun _ _ _ h => h) (Or.inl ⟨by rfl, ?_⟩) ?_ ?_
                rotate_left
                ·intro w'
                 go_simp
                 with_reducible rfl
                rotate_left
                ·simp only [Act.put, List.setIfInBounds_toArray, List.set_cons_zero, List.set_cons_succ, i64_w, i32_w]
                 rfl
                refine pure_ (i := 2) (N := some 53) (v := ?_) (a' := ?_) #[true, false, true, false, false, false, false, false, false, false, false, false, false, false, false, false] rfl rfl (any_of HT_.out (by kernel_rfl)) (fun _ _ _ h => h) (Or.inl ⟨by rfl, ?_⟩) ?_ ?_
                rotate_left
                ·intro w'
                 go_simp
                 with_reducible rfl
                rotate_left
                ·simp only [Act.put, List.setIfInBounds_toArray, List.set_cons_zero, List.set_cons_succ, i64_w, i32_w]
                 rfl
                refine pure_ (i := 3) (N := some 54) (v := ?_) (a' := ?_) #[true, false, true, true, false, false, false, false, false, false, false, false, false, false, false, false] rfl rfl (any_of HT_.out (by kernel_rfl)) (fun _ _ _ h => h) (Or.inl ⟨by rfl, ?_⟩) ?_ ?_
                rotate_left
                ·intro w'
                 go_simp
                 with_reducible rfl
                rotate_left
                ·simp only [Act.put, List.setIfInBounds_toArray, List.set_cons_zero, List.set_cons_succ, i64_w, i32_w]
                 rfl
                refine pure_ (i := 6) (N := some 57) (v := ?_) (a' := ?_) #[true, false, true, true, false, false, true, false, false, false, false, false, false, false, false, false] rfl rfl (any_of HT_.out (by kernel_rfl)) (fun _ _ _ h => h) (Or.inl ⟨by rfl, ?_⟩) ?_ ?_
                rotate_left
                ·intro w'
                 go_simp
                 with_reducible rfl
                rotate_left
                ·simp only [Act.put, List.setIfInBounds_toArray, List.set_cons_zero, List.set_cons_succ, i64_w, i32_w]
                 rfl
                refine pure_ (i := 7) (N := some 58) (v := ?_) (a' := ?_) #[true, false, true, true, false, false, true, true, false, false, false, false, false, false, false, false] rfl rfl (any_of HT_.out (by kernel_rfl)) (fun _ _ _ h => h) (Or.inl ⟨by rfl, ?_⟩) ?_ ?_
                rotate_left
                ·intro w'
                 go_simp
                 with_reducible rfl
                rotate_left
                ·simp only [Act.put, List.setIfInBounds_toArray, List.set_cons_zero, List.set_cons_succ, i64_w, i32_w]
                 rfl
                refine pure_ (i := 10) (N := some 61) (v := ?_) (a' := ?_) #[true, false, true, true, false, false, true, true, false, false, true, false, false, false, false, false] rfl rfl (any_of HT_.out (by kernel_rfl)) (fun _ _ _ h => h) (Or.inl ⟨by rfl, ?_⟩) ?_ ?_
                rotate_left
                ·intro w'
                 go_simp
                 with_reducible rfl
                rotate_left
                ·simp only [Act.put, List.setIfInBounds_toArray, List.set_cons_zero, List.set_cons_succ, i64_w, i32_w]
                 rfl
                refine take_ (i := 1) (N := some 52) (v := ?_) (a' := ?_) #[true, true, true, true, false, false, true, true, false, false, true, false, false, false, false, false] rfl rfl (take_ofW HT_.out HW_.out (by kernel_rfl)) (fun _ _ _ h => h) (Or.inl ⟨by rfl, ?_⟩) hHeld ?_ ?_
                rotate_left
                ·rintro w' ⟨s0, s1, s2⟩
                 go_simp
                 with_reducible rfl
                rotate_left
                ·simp only [Act.put, List.setIfInBounds_toArray, List.set_cons_zero, List.set_cons_succ, i64_w, i32_w]
                 rfl
                refine take_ (i := 4) (N := some 55) (v := ?_) (a' := ?_) #[true, true, true, true, true, false, true, true, false, false, true, false, false, false, false, false] rfl rfl (take_ofW HT_.out HW_.out (by kernel_rfl)) (fun _ _ _ h => h) (Or.inl ⟨by rfl, ?_⟩) hHeld ?_ ?_
                rotate_left
                ·rintro w' ⟨s0, s1, s2⟩
                 go_simp
                 with_reducible rfl
                rotate_left
                ·simp only [Act.put, List.setIfInBounds_toArray, List.set_cons_zero, List.set_cons_succ, i64_w, i32_w]
                 rfl
                refine take_ (i := 8) (N := some 59) (v := ?_) (a' := ?_) #[true, true, true, true, true, false, true, true, true, false, true, false, false, false, false, false] rfl rfl (take_ofW HT_.out HW_.out (by kernel_rfl)) (fun _ _ _ h => h) (Or.inl ⟨by rfl, ?_⟩) hHeld ?_ ?_
                rotate_left
                ·rintro w' ⟨s0, s1, s2⟩
                 go_simp
                 with_reducible rfl
                rotate_left
                ·simp only [Act.put, List.setIfInBounds_toArray, List.set_cons_zero, List.set_cons_succ, i64_w, i32_w]
                 rfl
                refine one_ (i := 5) (N := some 56) #[true, true, true, true, true, true, true, true, true, false, true, false, false, false, false, false] rfl rfl (one_of HT_.out (by kernel_rfl)) (by decide) (fun K hK => ?_)
                refine goes_ Tryd.func61 (by kernel_rfl) rfl #[.string (rdOf ByteArray.empty t154 0)] (by rfl) rfl rfl (by (try simp only [List.map_toArray, List.map_cons, List.map_nil]); first | done | rfl | (simp only [List.length_drop, List.length_take]; rfl)) ?_
                with_reducible refine (spec_l1Read.calls kj20 (rdOf ByteArray.empty t154 0) t171 _ A41.out).mono ?_
                rintro e w' ⟨rfl, ⟨nd, rfl⟩⟩
                refine ⟨_, rfl, ?_⟩
                refine hK.out _ _ ⟨(blk_cell BK147.out 0).trans rfl, hHeld.2.1, hHeld.2.2⟩ (fun hHeld => ?_)
                clear hK K
                refine norm_ (a' := ?_) ?_ ?_
                rotate_left
                ·show Act.put _ (some 56) _ = _
                 simp only [Act.put, List.setIfInBounds_toArray, List.set_cons_zero, List.set_cons_succ, i64_w, i32_w]
                 rfl
                refine one_ (i := 9) (N := some 60) #[true, true, true, true, true, true, true, true, true, true, true, false, false, false, false, false] rfl rfl (one_of HT_.out (by kernel_rfl)) (by decide) (fun K hK => ?_)
                refine goes_ Tryd.func61 (by kernel_rfl) rfl #[.string (rdOf ByteArray.empty t154 1)] (by rfl) rfl rfl (by (try simp only [List.map_toArray, List.map_cons, List.map_nil]); first | done | rfl | (simp only [List.length_drop, List.length_take]; rfl)) ?_
                with_reducible refine (spec_l1Read.calls kj20 (rdOf ByteArray.empty t154 1) t173 _ A43.out).mono ?_
                rintro e w' ⟨rfl, ⟨nd, rfl⟩⟩
                refine ⟨_, rfl, ?_⟩
                refine hK.out _ _ ⟨(blk_cell BK147.out 0).trans rfl, hHeld.2.1, hHeld.2.2⟩ (fun hHeld => ?_)
                clear hK K
                refine norm_ (a' := ?_) ?_ ?_
                rotate_left
                ·show Act.put _ (some 60) _ = _
                 simp only [Act.put, List.setIfInBounds_toArray, List.set_cons_zero, List.set_cons_succ, i64_w, i32_w]
                 rfl
                refine pure_ (i := 11) (N := some 62) (v := ?_) (a' := ?_) #[true, true, true, true, true, true, true, true, true, true, true, true, false, false, false, false] rfl rfl (any_of HT_.out (by kernel_rfl)) (fun _ _ _ h => h) (Or.inl ⟨by rfl, ?_⟩) ?_ ?_
                rotate_left
                ·intro w'
                 go_simp
                 with_reducible rfl
                rotate_left
                ·simp only [Act.put, List.setIfInBounds_toArray, List.set_cons_zero, List.set_cons_succ, i64_w, i32_w]
                 rfl
                refine one_ (i := 12) (N := some 63) #[true, true, true, true, true, true, true, true, true, true, true, true, true, false, false, false] rfl rfl (one_of HT_.out (by kernel_rfl)) (by decide) (fun K hK => ?_)
                refine value_ (w1 := ?_) (v := ?_) (by rfl) rfl ?_ ?_
                rotate_left 2
                ·go_simp
                 constructor
                 ·rfl
                 ·rfl
                refine hK.out _ _ ⟨(blk_cell (blk_alloc BK147.out _) 0).trans rfl, (World.cell?_alloc_lt _ _ _ (World.block_lt_of_cell? _ _ (hHeld.2.1))).trans (hHeld.2.1), (World.cell?_alloc_lt _ _ _ (World.block_lt_of_cell? _ _ (hHeld.2.2))).trans (hHeld.2.2)⟩ (fun hHeld => ?_)
                clear hK K
                refine norm_ (a' := ?_) ?_ ?_
                rotate_left
                ·show Act.put _ (some 63) _ = _
                 simp only [Act.put, List.setIfInBounds_toArray, List.set_cons_zero, List.set_cons_succ, i64_w, i32_w]
                 rfl
                refine last_ (i := 13) (N := some 64) #[true, true, true, true, true, true, true, true, true, true, true, true, true, true, false, false] rfl rfl (one_of HT_.out (by kernel_rfl)) (by decide) (fun K hK => ?_)
                refine Kd.R_append_step k64 (w0 := w) w.heap.size (by rfl) (.tmp 52) (.tmp 63) 35 64 (.agg #[(.int .i64 0), (.int .i64 0), (.int .i64 0)]) 24 rfl Tryd.underlying35 info64 rfl (by decide) (by omega) u148000 x148000_1 (⟨t171, t173, t158⟩ : S64) [.int .i64 t171, .int .i64 t173, .int .i64 t158] (fun _ => True) (fun _ => False) rfl rfl ?aP (fun _ hk => hk.elim) ?aF ?aO ?aB ?aS ?aL ?_
                (case aP => exact k64_mkM _ _ _ (⟨t171, t173, t158⟩ : S64))
                (case aB => exact (hB HB.out))
                (case aF => exact (fun _ _ => trivial))
                (case aO => exact (rk HO_148000.out))
                (case aS => exact (below_size (hB HB.out)))
                (case aL => have := LMc44.out; omega)
                intro v175 w46 ho hb hg hat
                rw [← Ny174.out] at ho
                have n0_ := Aside0.mk (Kd.R_over' (rk HO_7.out) (Kd.R_typed (rk HO_148000.out)) (by decide) hg)
                have n1_ := Aside0.mk (Kd.R_over' (rk HO_17.out) (Kd.R_typed (rk HO_148000.out)) (by decide) hg)
                have n2_ := Aside0.mk (blk_grown (g := gb146) (o := .cells #[.slice none 0 0] 37 (0, 0)) (bk BK146.out) hg (Kd.R_ne HO_148000.out BK146.out (by decide)))
                have n3_ := Aside0.mk (blk_grown (g := gb147) (o := .cells #[u148000] 37 (0, 0)) (bk BK147.out) hg (Kd.R_ne HO_148000.out BK147.out (by decide)))
                have n4_ := Aside0.mk (hb)
                have n5_ := Aside0.mk (ho)
                clear HO_7
                clear HO_17
                clear BK146
                clear BK147
                clear HB
                clear HO_148000
                have HO_7 := n0_
                have HO_17 := n1_
                have BK146 := n2_
                have BK147 := n3_
                have HB := n4_
                have HO176 := n5_
                clear n0_ n1_ n2_ n3_ n4_ n5_
                clear ho hb hg hat
                obtain ⟨Ao47, co47, eo47⟩ := Kd.R_slice HO176.out
                (first | subst eo47 | (injection eo47 with f1_ f2_ f3_; have f4_ := f1_.symm; have f5_ := f3_.symm; clear f1_ f2_ f3_; subst f4_; subst f5_))
                refine hK.out _ _ ?_
                clear hK K
                refine norm_ (a' := ?_) ?_ ?_
                rotate_left
                ·show Act.put _ (some 64) _ = _
                 simp only [Act.put, List.setIfInBounds_toArray, List.set_cons_zero, List.set_cons_succ, i64_w, i32_w]
                 rfl
                refine pure_ (i := 14) (N := some 65) (v := ?_) (a' := ?_) #[true, true, true, true, true, true, true, true, true, true, true, true, true, true, true, false] rfl rfl (any_of HT_.out (by kernel_rfl)) (fun _ _ _ h => h) (Or.inl ⟨by rfl, ?_⟩) ?_ ?_
                rotate_left
                ·intro w'
                 go_simp
                 with_reducible rfl
                rotate_left
                ·simp only [Act.put, List.setIfInBounds_toArray, List.set_cons_zero, List.set_cons_succ, i64_w, i32_w]
                 rfl
                refine last_ (i := 15) (N := none) #[true, true, true, true, true, true, true, true, true, true, true, true, true, true, true, true] rfl rfl (one_of HT_.out (by kernel_rfl)) (by decide) (fun K hK => ?_)
                have hs48 : w46.cell? ⟨gb147, 0, none⟩ = some (u148000) := (blk_cell BK147.out 0).trans rfl
                have hfs48 := blk_frozen BK147.out 0
                have hns48_0 := NB146_147.out
                have hms48_0 := NB147_146.out
                refine skip_ (w1 := ?_) (by rfl) rfl ?_ ?_
                rotate_left
                ·go_simp
                 rfl
                refine hK.out _ _ ?_
                clear hK K
                refine done_ (done_of HT_.out (by kernel_rfl)) ?_
                try go_wp2
                go_roundg kj20
                case measure => have := HK1.out; have := HJ20.out; omega
                case rel => exact ⟨(wrap64 (x19_1 + 1)), (y174), (.slice Ao47 y174.length co47), (by first | rfl | (simp; done) | (simp [*]; done)), H', ⟨by have := HK1.out; have := HJ20.out; omega⟩, ⟨rk (Kd.R_mono (Kd.R_far (p := ⟨gb147, 0, none⟩) (Kd.R_types HO_17.out BK147.out (by decide)) (fun _ hk => hk.2) (.slice Ao47 y174.length co47)) (fun _ hk => trivial))⟩, ⟨rk (Kd.R_mono (Kd.R_far (p := ⟨gb147, 0, none⟩) (Kd.R_types HO176.out BK147.out (by decide)) (fun _ hk => hk.2) (.slice Ao47 y174.length co47)) (fun _ hk => trivial))⟩, ⟨by (with_reducible repeat (first | refine blk_drewN ?_ _ | refine blk_drew ?_ | refine blk_alloc ?_ _)); refine blk_far ?_ NB146_147.out _; (with_reducible repeat (first | refine blk_drewN ?_ _ | refine blk_drew ?_ | refine blk_alloc ?_ _)); exact BK146.out⟩, ⟨by (with_reducible repeat (first | refine blk_drewN ?_ _ | refine blk_drew ?_ | refine blk_alloc ?_ _)); refine blk_put (cs := #[u148000]) ?_ 0 _ rfl; (with_reducible repeat (first | refine blk_drewN ?_ _ | refine blk_drew ?_ | refine blk_alloc ?_ _)); exact BK147.out⟩, ⟨hB HB.out⟩⟩
               ·rw [if_neg c44] at H
                exact absurd H (by simp)
              ·rw [if_neg c42] at H
               exact absurd H (by simp)
             ·rw [if_neg c40] at H
              exact absurd H (by simp)
         ·rw [if_neg c19] at H
          exact absurd H (by simp)
        ·rw [if_neg c18] at H
         have c18b0 : ((t154.length : Int) == 3) = false := beq_eq_false_iff_ne.mpr c18
         have c18b1 : ((t154.length : Int) != 3) = true := bne_iff_ne.mpr c18
         simp only [Option.some.injEq, Prod.mk.injEq] at H
         obtain ⟨rfl, rfl⟩ := H
         have p153 : 0 ≤ (x19_1 : Int) := of_decide_eq_true (by first | (with_reducible assumption) | assumption)
         have q153 : x19_1 < (t148.length : Int) := of_decide_eq_true (by first | (with_reducible assumption) | assumption)
         obtain ⟨ad153, e153, hx153_0⟩ := Kd.at_string (Kd.R_reads' HO_17.out).2.2 x19_1 p153 q153
         cases e153
         replace p153 := eq_true p153
         replace q153 := eq_true q153
         go_wp2_with (first | ((with_reducible refine gate_callee (f := 60) rfl ?_); refine goesL_ (some 24) rfl rfl Tryd.func60 (by kernel_rfl) rfl #[.string (rdOf ByteArray.empty t148 x19_1), .int .u8 46] rfl (by (try simp only [List.map_toArray, List.map_cons, List.map_nil]); first | done | rfl | (simp only [List.length_drop, List.length_take]; rfl)) ?_; (with_reducible refine (spec_l1Split.calls k1 (rdOf ByteArray.empty t148 x19_1) 46 t154 _ A17.out).mono ?_); rintro e w49 ⟨v155, rfl, ho0, hb⟩; refine ⟨_, rfl, ?_⟩; have n0_ := Aside0.mk (Kd.R_elder' (rk HO_17.out) (Kd.R_base ho0) hb); have n1_ := Aside0.mk (Kd.R_below (rk HO_148000.out) hb); have n2_ := Aside0.mk (Kd.R_lower (Kd.R_new' ho0 (Kd.R_lt (rk HO_17.out))) (below_size (hB HB.out))); have n3_ := Aside0.mk (blk_below (g := gb146) (o := .cells #[.slice none 0 0] 37 (0, 0)) (bk BK146.out) hb); have n4_ := Aside0.mk (blk_below (g := gb147) (o := .cells #[u148000] 37 (0, 0)) (bk BK147.out) hb); have n5_ := Aside0.mk (below_step (hB HB.out) hb); clear HO_17; clear HO_148000; clear BK146; clear BK147; clear HB; have HO_17 := n0_; have HO_148000 := n1_; have HO156 := n2_; have BK146 := n3_; have BK147 := n4_; have HB := n5_; clear n0_ n1_ n2_ n3_ n4_ n5_; (try clear hb); (try clear hb2); (try clear hk); (try clear hi); (try clear ho0); obtain ⟨Ao50, co50, eo50⟩ := Kd.R_slice HO156.out; subst eo50; have hnb51 := NB146_147.out; have hnc51 := NB147_146.out; have hcz52_0 : w49.cell? ⟨gb146, 0, none⟩ = some (.slice none 0 0) := (blk_cell BK146.out 0).trans rfl; have hfz52_0 := blk_frozen BK146.out 0))
         refine bodyPost_ret (results_ct rfl _ _ gb146 37 #[.slice none 0 0] (0, 0) _ rfl (by (with_reducible repeat (first | refine blk_drewN ?_ _ | refine blk_drew ?_ | refine blk_alloc ?_ _)); refine blk_put (cs := #[.slice none 0 0]) ?_ 0 _ rfl; (with_reducible repeat (first | refine blk_drewN ?_ _ | refine blk_drew ?_ | refine blk_alloc ?_ _)); exact BK146.out) Tryd.underlying37 rfl (by kernel_rfl)) rfl ?_
         exact ⟨_, by first | rfl | (simp [errW_none, errW_some] <;> rfl) | (simp [*, errW_none, errW_some] <;> rfl), by first | exact Kd.R_nil _ _ _ _ _ | exact Kd.N_nil _ _ _ _ _ | exact Kd.V_nil _ _ _ _ _ | exact Kd.Q_nil _ _ _ _ _ | exact Kd.S_nil _ _ _ _ _, hB HB.out⟩
       ·rw [if_neg c16] at H
        exact absurd H (by simp)
      ·rw [if_neg c15] at H
       exact absurd H (by simp)
     ·rw [if_neg c14] at H
      have c14b0 : decide (x19_1 < (t148.length : Int)) = false := decide_eq_false c14
      clear c14
      replace H := Option.bind_eq_some_iff.mp H
      obtain ⟨t151, A530, H⟩ := H
      replace H : (if t151 = true then ((spec_pzText.f k1 x148000_1).bind fun t152 => (some (x148000_1, (t152.toList == a0.toList)))) else (some (x148000_1, false))) = some (r1, r2) := H
      have A53 := Aside0.mk A530
      clear A530
      by_cases c54 : t151 = true
      ·subst c54
       have H1 : ((spec_pzText.f k1 x148000_1).bind fun t152 => (some (x148000_1, (t152.toList == a0.toList)))) = some (r1, r2) := by rw [if_pos rfl] at H; exact H
       clear H
       have H := H1
       clear H1
       replace H := Option.bind_eq_some_iff.mp H
       obtain ⟨t152, A550, H⟩ := H
       replace H : (some (x148000_1, (t152.toList == a0.toList))) = some (r1, r2) := H
       have A55 := Aside0.mk A550
       clear A550
       simp only [Option.some.injEq, Prod.mk.injEq] at H
       obtain ⟨rfl, rfl⟩ := H
       try go_wp2
       have n0_ := Aside0.mk (Kd.R_drew HO_17.out)
       have n1_ := Aside0.mk (Kd.R_drew HO_148000.out)
       have n2_ := Aside0.mk (blk_drew BK146.out)
       have n3_ := Aside0.mk (blk_drew BK147.out)
       have n4_ := Aside0.mk (below_drew1 HB.out)
       clear HO_17
       clear HO_148000
       clear BK146
       clear BK147
       clear HB
       have HO_17 := n0_
       have HO_148000 := n1_
       have BK146 := n2_
       have BK147 := n3_
       have HB := n4_
       clear n0_ n1_ n2_ n3_ n4_
       obtain ⟨Ao57, co57, eo57⟩ := Kd.R_slice HO_148000.out
       (first | subst eo57 | (injection eo57 with f1_ f2_ f3_; have f4_ := f1_.symm; have f5_ := f3_.symm; clear f1_ f2_ f3_; subst f4_; subst f5_))
       refine start_ (n := 11) (S := fun w' => w'.cell? ⟨gb147, 0, none⟩ = some (.slice Ao57 x148000_1.length co57)) (ds := []) #[false, false, false, false, false, false, false, false, false, false, false] (by kernel_rfl) rfl rfl ((blk_cell BK147.out 0).trans rfl) (fun hHeld => ?_); refine with_tabW spec_pzParse.tab16 spec_pzParse.bits16 (fun HT_ HW_ => ?_)
       generalize wr.drew = w56 at HO_17 HO_148000 BK146 BK147 HB hHeld ⊢
       refine take_ (i := 0) (N := some 67) (v := ?_) (a' := ?_) #[true, false, false, false, false, false, false, false, false, false, false] rfl rfl (take_ofW HT_.out HW_.out (by kernel_rfl)) (fun _ _ _ h => h) (Or.inl ⟨by rfl, ?_⟩) hHeld ?_ ?_
       rotate_left
       ·intro w' s0
        go_simp
        with_reducible rfl
       rotate_left
       ·simp only [Act.put, List.setIfInBounds_toArray, List.set_cons_zero, List.set_cons_succ, i64_w, i32_w]
        rfl
       refine take_ (i := 1) (N := some 68) (v := ?_) (a' := ?_) #[true, true, false, false, false, false, false, false, false, false, false] rfl rfl (take_ofW HT_.out HW_.out (by kernel_rfl)) (fun _ _ _ h => h) (Or.inl ⟨by rfl, ?_⟩) hHeld ?_ ?_
       rotate_left
       ·intro w' s0
        go_simp
        with_reducible rfl
       rotate_left
       ·simp only [Act.put, List.setIfInBounds_toArray, List.set_cons_zero, List.set_cons_succ, i64_w, i32_w]
        rfl
       refine one_ (i := 2) (N := some 69) #[true, true, true, false, false, false, false, false, false, false, false] rfl rfl (one_of HT_.out (by kernel_rfl)) (by decide) (fun K hK => ?_)
       refine goes_ Tryd.func33 (by kernel_rfl) rfl #[.agg #[.slice Ao57 x148000_1.length co57]] (by rfl) rfl rfl (by (try simp only [List.map_toArray, List.map_cons, List.map_nil]); first | done | rfl | (simp only [List.length_drop, List.length_take]; rfl)) ?_
       with_reducible refine (spec_pzGood.calls k1 _ _ x148000_1 true _ ?side1 ?side2 A53.out).mono ?_
       (case side1 => repeat (first | exact (Kd.R_reads' HO_148000.out).2.2 | (with_reducible refine Kd.C_alloc ?_ _) | (with_reducible refine Kd.C_drewN ?_ _) | (with_reducible refine Kd.C_drew ?_)))
       (case side2 => exact (Kd.R_reads' HO_148000.out).2.1)
       rintro e w58 ⟨rfl, hb⟩
       refine ⟨_, rfl, ?_⟩
       have n0_ := Aside0.mk (Kd.R_below (rk HO_17.out) hb)
       have n1_ := Aside0.mk (Kd.R_below (rk HO_148000.out) hb)
       have n2_ := Aside0.mk (blk_below (g := gb146) (o := .cells #[.slice none 0 0] 37 (0, 0)) (bk BK146.out) hb)
       have n3_ := Aside0.mk (blk_below (g := gb147) (o := .cells #[.slice Ao57 x148000_1.length co57] 37 (0, 0)) (bk BK147.out) hb)
       have n4_ := Aside0.mk (below_step (hB HB.out) hb)
       clear HO_17
       clear HO_148000
       clear BK146
       clear BK147
       clear HB
       have HO_17 := n0_
       have HO_148000 := n1_
       have BK146 := n2_
       have BK147 := n3_
       have HB := n4_
       clear n0_ n1_ n2_ n3_ n4_
       (try clear hb)
       (try clear hb2)
       (try clear hk)
       (try clear hi)
       refine hK.out _ _ ((blk_cell BK147.out 0).trans rfl) (fun hHeld => ?_)
       clear hK K
       refine norm_ (a' := ?_) ?_ ?_
       rotate_left
       ·show Act.put _ (some 69) _ = _
        simp only [Act.put, List.setIfInBounds_toArray, List.set_cons_zero, List.set_cons_succ, i64_w, i32_w]
        rfl
       refine pure_ (i := 3) (N := some 70) (v := ?_) (a' := ?_) #[true, true, true, true, false, false, false, false, false, false, false] rfl rfl (any_of HT_.out (by kernel_rfl)) (fun _ _ _ h => h) (Or.inl ⟨by rfl, ?_⟩) ?_ ?_
       rotate_left
       ·intro w'
        go_simp
        with_reducible rfl
       rotate_left
       ·simp only [Act.put, List.setIfInBounds_toArray, List.set_cons_zero, List.set_cons_succ, i64_w, i32_w]
        rfl
       refine pure_ (i := 6) (N := some 73) (v := ?_) (a' := ?_) #[true, true, true, true, false, false, true, false, false, false, false] rfl rfl (any_of HT_.out (by kernel_rfl)) (fun _ _ _ h => h) (Or.inl ⟨by rfl, ?_⟩) ?_ ?_
       rotate_left
       ·intro w'
        go_simp
        with_reducible rfl
       rotate_left
       ·simp only [Act.put, List.setIfInBounds_toArray, List.set_cons_zero, List.set_cons_succ, i64_w, i32_w]
        rfl
       refine take_ (i := 4) (N := some 71) (v := ?_) (a' := ?_) #[true, true, true, true, true, false, true, false, false, false, false] rfl rfl (take_ofW HT_.out HW_.out (by kernel_rfl)) (fun _ _ _ h => h) (Or.inl ⟨by rfl, ?_⟩) hHeld ?_ ?_
       rotate_left
       ·intro w' s0
        go_simp
        with_reducible rfl
       rotate_left
       ·simp only [Act.put, List.setIfInBounds_toArray, List.set_cons_zero, List.set_cons_succ, i64_w, i32_w]
        rfl
       refine one_ (i := 5) (N := some 72) #[true, true, true, true, true, true, true, false, false, false, false] rfl rfl (one_of HT_.out (by kernel_rfl)) (by decide) (fun K hK => ?_)
       refine goes_ Tryd.func34 (by kernel_rfl) rfl #[.agg #[.slice Ao57 x148000_1.length co57]] (by rfl) rfl rfl (by (try simp only [List.map_toArray, List.map_cons, List.map_nil]); first | done | rfl | (simp only [List.length_drop, List.length_take]; rfl)) ?_
       with_reducible refine (spec_pzText.calls k1 _ _ x148000_1 t152 _ ?side1 ?side2 A55.out).mono ?_
       (case side1 => repeat (first | exact (Kd.R_reads' HO_148000.out).2.2 | (with_reducible refine Kd.C_alloc ?_ _) | (with_reducible refine Kd.C_drewN ?_ _) | (with_reducible refine Kd.C_drew ?_)))
       (case side2 => exact (Kd.R_reads' HO_148000.out).2.1)
       rintro e w59 ⟨rfl, hb⟩
       refine ⟨_, rfl, ?_⟩
       have n0_ := Aside0.mk (Kd.R_below (rk HO_17.out) hb)
       have n1_ := Aside0.mk (Kd.R_below (rk HO_148000.out) hb)
       have n2_ := Aside0.mk (blk_below (g := gb146) (o := .cells #[.slice none 0 0] 37 (0, 0)) (bk BK146.out) hb)
       have n3_ := Aside0.mk (blk_below (g := gb147) (o := .cells #[.slice Ao57 x148000_1.length co57] 37 (0, 0)) (bk BK147.out) hb)
       have n4_ := Aside0.mk (below_step (hB HB.out) hb)
       clear HO_17
       clear HO_148000
       clear BK146
       clear BK147
       clear HB
       have HO_17 := n0_
       have HO_148000 := n1_
       have BK146 := n2_
       have BK147 := n3_
       have HB := n4_
       clear n0_ n1_ n2_ n3_ n4_
       (try clear hb)
       (try clear hb2)
       (try clear hk)
       (try clear hi)
       refine hK.out _ _ ((blk_cell BK147.out 0).trans rfl) (fun hHeld => ?_)
       clear hK K
       refine norm_ (a' := ?_) ?_ ?_
       rotate_left
       ·show Act.put _ (some 72) _ = _
        simp only [Act.put, List.setIfInBounds_toArray, List.set_cons_zero, List.set_cons_succ, i64_w, i32_w]
        rfl
       refine pure_ (i := 7) (N := some 74) (v := ?_) (a' := ?_) #[true, true, true, true, true, true, true, true, false, false, false] rfl rfl (any_of HT_.out (by kernel_rfl)) (fun _ _ _ h => h) (Or.inl ⟨by rfl, ?_⟩) ?_ ?_
       rotate_left
       ·intro w'
        go_simp
        with_reducible rfl
       rotate_left
       ·simp only [Act.put, List.setIfInBounds_toArray, List.set_cons_zero, List.set_cons_succ, i64_w, i32_w]
        rfl
       refine pure_ (i := 8) (N := some 75) (v := ?_) (a' := ?_) #[true, true, true, true, true, true, true, true, true, false, false] rfl rfl (any_of HT_.out (by kernel_rfl)) (fun _ _ _ h => h) (Or.inl ⟨by rfl, ?_⟩) ?_ ?_
       rotate_left
       ·intro w'
        go_simp
        with_reducible rfl
       rotate_left
       ·simp only [Act.put, List.setIfInBounds_toArray, List.set_cons_zero, List.set_cons_succ, i64_w, i32_w]
        rfl
       refine one_ (i := 9) (N := none) #[true, true, true, true, true, true, true, true, true, true, false] rfl rfl (one_of HT_.out (by kernel_rfl)) (by decide) (fun K hK => ?_)
       have hs60 : w59.cell? ⟨gb146, 0, none⟩ = some (.slice none 0 0) := (blk_cell BK146.out 0).trans rfl
       have hfs60 := blk_frozen BK146.out 0
       have hns60_1 := NB147_146.out
       have hms60_1 := NB146_147.out
       refine skip_ (w1 := ?_) (by rfl) rfl ?_ ?_
       rotate_left
       ·go_simp
        rfl
       refine hK.out _ _ (((cell_far (p := ⟨gb146, _, none⟩) NB147_146.out _).trans (hHeld))) (fun hHeld => ?_)
       clear hK K
       refine pure_ (i := 10) (N := some 3) (v := ?_) (a' := ?_) #[true, true, true, true, true, true, true, true, true, true, true] rfl rfl (any_of HT_.out (by kernel_rfl)) (fun _ _ _ h => h) (Or.inl ⟨by rfl, ?_⟩) ?_ ?_
       rotate_left
       ·intro w'
        go_simp
        with_reducible rfl
       rotate_left
       ·simp only [Act.put, List.setIfInBounds_toArray, List.set_cons_zero, List.set_cons_succ, i64_w, i32_w]
        rfl
       refine done_ (done_of HT_.out (by kernel_rfl)) ?_
       try go_wp2
       refine bodyPost_ret (results_ct rfl _ _ gb146 37 #[.slice Ao57 x148000_1.length co57] (0, 0) _ rfl (by (with_reducible repeat (first | refine blk_drewN ?_ _ | refine blk_drew ?_ | refine blk_alloc ?_ _)); refine blk_put (cs := #[.slice none 0 0]) ?_ 0 _ rfl; (with_reducible repeat (first | refine blk_drewN ?_ _ | refine blk_drew ?_ | refine blk_alloc ?_ _)); exact BK146.out) Tryd.underlying37 rfl (by kernel_rfl)) rfl ?_
       exact ⟨_, by first | rfl | (simp [errW_none, errW_some] <;> rfl) | (simp [*, errW_none, errW_some] <;> rfl), rk (Kd.R_mono (Kd.R_far (p := ⟨gb146, 0, none⟩) (Kd.R_types HO_148000.out BK146.out (by decide)) (fun _ hk => hk.2) (.slice Ao57 x148000_1.length co57)) (fun _ hk => trivial)), hB HB.out⟩
      ·replace c54 := Bool.eq_false_iff.mpr c54
       subst c54
       have H1 : (some (x148000_1, false)) = some (r1, r2) := by rw [if_neg (show ¬ (false = true) by decide)] at H; exact H
       clear H
       have H := H1
       clear H1
       simp only [Option.some.injEq, Prod.mk.injEq] at H
       obtain ⟨rfl, rfl⟩ := H
       try go_wp2
       have n0_ := Aside0.mk (Kd.R_drew HO_17.out)
       have n1_ := Aside0.mk (Kd.R_drew HO_148000.out)
       have n2_ := Aside0.mk (blk_drew BK146.out)
       have n3_ := Aside0.mk (blk_drew BK147.out)
       have n4_ := Aside0.mk (below_drew1 HB.out)
       clear HO_17
       clear HO_148000
       clear BK146
       clear BK147
       clear HB
       have HO_17 := n0_
       have HO_148000 := n1_
       have BK146 := n2_
       have BK147 := n3_
       have HB := n4_
       clear n0_ n1_ n2_ n3_ n4_
       obtain ⟨Ao62, co62, eo62⟩ := Kd.R_slice HO_148000.out
       (first | subst eo62 | (injection eo62 with f1_ f2_ f3_; have f4_ := f1_.symm; have f5_ := f3_.symm; clear f1_ f2_ f3_; subst f4_; subst f5_))
       refine start_ (n := 11) (S := fun w' => w'.cell? ⟨gb147, 0, none⟩ = some (.slice Ao62 x148000_1.length co62)) (ds := []) #[false, false, false, false, false, false, false, false, false, false, false] (by kernel_rfl) rfl rfl ((blk_cell BK147.out 0).trans rfl) (fun hHeld => ?_); refine with_tabW spec_pzParse.tab16 spec_pzParse.bits16 (fun HT_ HW_ => ?_)
       generalize wr.drew = w61 at HO_17 HO_148000 BK146 BK147 HB hHeld ⊢
       refine take_ (i := 0) (N := some 67) (v := ?_) (a' := ?_) #[true, false, false, false, false, false, false, false, false, false, false] rfl rfl (take_ofW HT_.out HW_.out (by kernel_rfl)) (fun _ _ _ h => h) (Or.inl ⟨by rfl, ?_⟩) hHeld ?_ ?_
       rotate_left
       ·intro w' s0
        go_simp
        with_reducible rfl
       rotate_left
       ·simp only [Act.put, List.setIfInBounds_toArray, List.set_cons_zero, List.set_cons_succ, i64_w, i32_w]
        rfl
       refine take_ (i := 1) (N := some 68) (v := ?_) (a' := ?_) #[true, true, false, false, false, false, false, false, false, false, false] rfl rfl (take_ofW HT_.out HW_.out (by kernel_rfl)) (fun _ _ _ h => h) (Or.inl ⟨by rfl, ?_⟩) hHeld ?_ ?_
       rotate_left
       ·intro w' s0
        go_simp
        with_reducible rfl
       rotate_left
       ·simp only [Act.put, List.setIfInBounds_toArray, List.set_cons_zero, List.set_cons_succ, i64_w, i32_w]
        rfl
       refine one_ (i := 2) (N := some 69) #[true, true, true, false, false, false, false, false, false, false, false] rfl rfl (one_of HT_.out (by kernel_rfl)) (by decide) (fun K hK => ?_)
       refine goes_ Tryd.func33 (by kernel_rfl) rfl #[.agg #[.slice Ao62 x148000_1.length co62]] (by rfl) rfl rfl (by (try simp only [List.map_toArray, List.map_cons, List.map_nil]); first | done | rfl | (simp only [List.length_drop, List.length_take]; rfl)) ?_
       with_reducible refine (spec_pzGood.calls k1 _ _ x148000_1 false _ ?side1 ?side2 A53.out).mono ?_
       (case side1 => repeat (first | exact (Kd.R_reads' HO_148000.out).2.2 | (with_reducible refine Kd.C_alloc ?_ _) | (with_reducible refine Kd.C_drewN ?_ _) | (with_reducible refine Kd.C_drew ?_)))
       (case side2 => exact (Kd.R_reads' HO_148000.out).2.1)
       rintro e w63 ⟨rfl, hb⟩
       refine ⟨_, rfl, ?_⟩
       have n0_ := Aside0.mk (Kd.R_below (rk HO_17.out) hb)
       have n1_ := Aside0.mk (Kd.R_below (rk HO_148000.out) hb)
       have n2_ := Aside0.mk (blk_below (g := gb146) (o := .cells #[.slice none 0 0] 37 (0, 0)) (bk BK146.out) hb)
       have n3_ := Aside0.mk (blk_below (g := gb147) (o := .cells #[.slice Ao62 x148000_1.length co62] 37 (0, 0)) (bk BK147.out) hb)
       have n4_ := Aside0.mk (below_step (hB HB.out) hb)
       clear HO_17
       clear HO_148000
       clear BK146
       clear BK147
       clear HB
       have HO_17 := n0_
       have HO_148000 := n1_
       have BK146 := n2_
       have BK147 := n3_
       have HB := n4_
       clear n0_ n1_ n2_ n3_ n4_
       (try clear hb)
       (try clear hb2)
       (try clear hk)
       (try clear hi)
       refine hK.out _ _ ((blk_cell BK147.out 0).trans rfl) (fun hHeld => ?_)
       clear hK K
       refine norm_ (a' := ?_) ?_ ?_
       rotate_left
       ·show Act.put _ (some 69) _ = _
        simp only [Act.put, List.setIfInBounds_toArray, List.set_cons_zero, List.set_cons_succ, i64_w, i32_w]
        rfl
       refine pure_ (i := 3) (N := some 70) (v := ?_) (a' := ?_) #[true, true, true, true, false, false, false, false, false, false, false] rfl rfl (any_of HT_.out (by kernel_rfl)) (fun _ _ _ h => h) (Or.inl ⟨by rfl, ?_⟩) ?_ ?_
       rotate_left
       ·intro w'
        go_simp
        with_reducible rfl
       rotate_left
       ·simp only [Act.put, List.setIfInBounds_toArray, List.set_cons_zero, List.set_cons_succ, i64_w, i32_w]
        rfl
       refine pure_ (i := 4) (N := some 71) (v := undef) (a' := ?_) #[true, true, true, true, true, false, false, false, false, false, false] rfl rfl (any_of HT_.out (by kernel_rfl)) (fun _ _ _ h => h) (Or.inr ⟨by rfl, rfl⟩) ?_ ?_
       rotate_left
       ·simp only [Act.put, List.setIfInBounds_toArray, List.set_cons_zero, List.set_cons_succ, i64_w, i32_w]
        rfl
       refine pure_ (i := 5) (N := some 72) (v := undef) (a' := ?_) #[true, true, true, true, true, true, false, false, false, false, false] rfl rfl (any_of HT_.out (by kernel_rfl)) (fun _ _ _ h => h) (Or.inr ⟨by rfl, rfl⟩) ?_ ?_
       rotate_left
       ·simp only [Act.put, List.setIfInBounds_toArray, List.set_cons_zero, List.set_cons_succ, i64_w, i32_w]
        rfl
       refine pure_ (i := 6) (N := some 73) (v := undef) (a' := ?_) #[true, true, true, true, true, true, true, false, false, false, false] rfl rfl (any_of HT_.out (by kernel_rfl)) (fun _ _ _ h => h) (Or.inr ⟨by rfl, rfl⟩) ?_ ?_
       rotate_left
       ·simp only [Act.put, List.setIfInBounds_toArray, List.set_cons_zero, List.set_cons_succ, i64_w, i32_w]
        rfl
       refine pure_ (i := 7) (N := some 74) (v := undef) (a' := ?_) #[true, true, true, true, true, true, true, true, false, false, false] rfl rfl (any_of HT_.out (by kernel_rfl)) (fun _ _ _ h => h) (Or.inr ⟨by rfl, rfl⟩) ?_ ?_
       rotate_left
       ·simp only [Act.put, List.setIfInBounds_toArray, List.set_cons_zero, List.set_cons_succ, i64_w, i32_w]
        rfl
       refine pure_ (i := 8) (N := some 75) (v := ?_) (a' := ?_) #[true, true, true, true, true, true, true, true, true, false, false] rfl rfl (any_of HT_.out (by kernel_rfl)) (fun _ _ _ h => h) (Or.inl ⟨by rfl, ?_⟩) ?_ ?_
       rotate_left
       ·intro w'
        go_simp
        with_reducible rfl
       rotate_left
       ·simp only [Act.put, List.setIfInBounds_toArray, List.set_cons_zero, List.set_cons_succ, i64_w, i32_w]
        rfl
       refine one_ (i := 9) (N := none) #[true, true, true, true, true, true, true, true, true, true, false] rfl rfl (one_of HT_.out (by kernel_rfl)) (by decide) (fun K hK => ?_)
       have hs64 : w63.cell? ⟨gb146, 0, none⟩ = some (.slice none 0 0) := (blk_cell BK146.out 0).trans rfl
       have hfs64 := blk_frozen BK146.out 0
       have hns64_1 := NB147_146.out
       have hms64_1 := NB146_147.out
       refine skip_ (w1 := ?_) (by rfl) rfl ?_ ?_
       rotate_left
       ·go_simp
        rfl
       refine hK.out _ _ (((cell_far (p := ⟨gb146, _, none⟩) NB147_146.out _).trans (hHeld))) (fun hHeld => ?_)
       clear hK K
       refine pure_ (i := 10) (N := some 3) (v := ?_) (a' := ?_) #[true, true, true, true, true, true, true, true, true, true, true] rfl rfl (any_of HT_.out (by kernel_rfl)) (fun _ _ _ h => h) (Or.inl ⟨by rfl, ?_⟩) ?_ ?_
       rotate_left
       ·intro w'
        go_simp
        with_reducible rfl
       rotate_left
       ·simp only [Act.put, List.setIfInBounds_toArray, List.set_cons_zero, List.set_cons_succ, i64_w, i32_w]
        rfl
       refine done_ (done_of HT_.out (by kernel_rfl)) ?_
       try go_wp2
       refine bodyPost_ret (results_ct rfl _ _ gb146 37 #[.slice Ao62 x148000_1.length co62] (0, 0) _ rfl (by (with_reducible repeat (first | refine blk_drewN ?_ _ | refine blk_drew ?_ | refine blk_alloc ?_ _)); refine blk_put (cs := #[.slice none 0 0]) ?_ 0 _ rfl; (with_reducible repeat (first | refine blk_drewN ?_ _ | refine blk_drew ?_ | refine blk_alloc ?_ _)); exact BK146.out) Tryd.underlying37 rfl (by kernel_rfl)) rfl ?_
       exact ⟨_, by first | rfl | (simp [errW_none, errW_some] <;> rfl) | (simp [*, errW_none, errW_some] <;> rfl), rk (Kd.R_mono (Kd.R_far (p := ⟨gb146, 0, none⟩) (Kd.R_types HO_148000.out BK146.out (by decide)) (fun _ hk => hk.2) (.slice Ao62 x148000_1.length co62)) (fun _ hk => trivial)), hB HB.out⟩
  ·rw [if_neg c8] at H
   have c8b0 : decide (0 < (a0.size : Int)) = false := decide_eq_false c8
   have c8b1 : decide (0 < a0.size) = false := decide_eq_false (by omega)
   clear c8
   replace H := Option.bind_eq_some_iff.mp H
   obtain ⟨t177, A650, H⟩ := H
   replace H : (if t177 = true then ((spec_pzText.f k ([] : List (S64))).bind fun t178 => (some (([] : List (S64)), (t178.toList == a0.toList)))) else (some (([] : List (S64)), false))) = some (r1, r2) := H
   have A65 := Aside0.mk A650
   clear A650
   by_cases c66 : t177 = true
   ·subst c66
    have H1 : ((spec_pzText.f k ([] : List (S64))).bind fun t178 => (some (([] : List (S64)), (t178.toList == a0.toList)))) = some (r1, r2) := by rw [if_pos rfl] at H; exact H
    clear H
    have H := H1
    clear H1
    replace H := Option.bind_eq_some_iff.mp H
    obtain ⟨t178, A670, H⟩ := H
    replace H : (some (([] : List (S64)), (t178.toList == a0.toList))) = some (r1, r2) := H
    have A67 := Aside0.mk A670
    clear A670
    simp only [Option.some.injEq, Prod.mk.injEq] at H
    obtain ⟨rfl, rfl⟩ := H
    go_enter Tryd.func41, Tryd.ntmps41
    try go_wp2_with (first | ((with_reducible refine gate_dst (N := 2) rfl ?_); refine box_event ?hg (N := 2) ?hd (cs := #[.slice none 0 0]) (t := 37) ?hr ?_; (case hd => rfl); (case hg => rfl); (case hr => first | (go_simp; done) | (go_simp; rfl)); intro gb146 hg w68 hbox hb; have n0_ := Aside0.mk (below_step (hB HB.out) hb); have n1_ := Aside0.mk (hbox); have n2_ := Aside0.mk ((by rw [hg]; exact (below_size (hB HB.out)) : w.heap.size ≤ gb146)); have n3_ := Aside0.mk ((by rw [hg]; exact (below_size (hB HB.out)) : w.heap.size ≤ gb146)); clear HB; have HB := n0_; have BK146 := n1_; have GW146 := n2_; have GE146 := n3_; clear n0_ n1_ n2_ n3_; clear hb hbox hg) | ((with_reducible refine gate_dst (N := 4) rfl ?_); refine box_event ?hg (N := 4) ?hd (cs := #[.slice none 0 0]) (t := 37) ?hr ?_; (case hd => rfl); (case hg => rfl); (case hr => first | (go_simp; done) | (go_simp; rfl)); intro gb147 hg w69 hbox hb; have n0_ := Aside0.mk (blk_below (g := gb146) (o := .cells #[.slice none 0 0] 37 (0, 0)) (bk BK146.out) hb); have n1_ := Aside0.mk (below_step (hB HB.out) hb); have n2_ := Aside0.mk (hbox); have n3_ := Aside0.mk ((by rw [hg]; exact (below_size (hB HB.out)) : w.heap.size ≤ gb147)); have n4_ := Aside0.mk ((by rw [hg]; exact (below_size (hB HB.out)) : w.heap.size ≤ gb147)); have n5_ := Aside0.mk ((by rw [hg]; exact Nat.ne_of_lt (blk_lt (g := gb146) (o := .cells #[.slice none 0 0] 37 (0, 0)) (bk BK146.out)) : gb146 ≠ gb147)); have n6_ := Aside0.mk ((by rw [hg]; exact Nat.ne_of_gt (blk_lt (g := gb146) (o := .cells #[.slice none 0 0] 37 (0, 0)) (bk BK146.out)) : gb147 ≠ gb146)); clear BK146; clear HB; have BK146 := n0_; have HB := n1_; have BK147 := n2_; have GW147 := n3_; have GE147 := n4_; have NB146_147 := n5_; have NB147_146 := n6_; clear n0_ n1_ n2_ n3_ n4_ n5_ n6_; clear hb hbox hg))
    have n0_ := Aside0.mk (blk_drew BK146.out)
    have n1_ := Aside0.mk (blk_drew BK147.out)
    have n2_ := Aside0.mk (below_drew1 HB.out)
    clear BK146
    clear BK147
    clear HB
    have BK146 := n0_
    have BK147 := n1_
    have HB := n2_
    clear n0_ n1_ n2_
    refine start_ (n := 11) (S := fun w' => w'.cell? ⟨gb147, 0, none⟩ = some (.slice none 0 0)) (ds := []) #[false, false, false, false, false, false, false, false, false, false, false] (by kernel_rfl) rfl rfl ((blk_cell BK147.out 0).trans rfl) (fun hHeld => ?_); refine with_tabW spec_pzParse.tab16 spec_pzParse.bits16 (fun HT_ HW_ => ?_)
    generalize w69.drew = w70 at BK146 BK147 HB hHeld ⊢
    refine take_ (i := 0) (N := some 67) (v := ?_) (a' := ?_) #[true, false, false, false, false, false, false, false, false, false, false] rfl rfl (take_ofW HT_.out HW_.out (by kernel_rfl)) (fun _ _ _ h => h) (Or.inl ⟨by rfl, ?_⟩) hHeld ?_ ?_
    rotate_left
    ·intro w' s0
     go_simp
     with_reducible rfl
    rotate_left
    ·simp only [Act.put, List.setIfInBounds_toArray, List.set_cons_zero, List.set_cons_succ, i64_w, i32_w]
     rfl
    refine take_ (i := 1) (N := some 68) (v := ?_) (a' := ?_) #[true, true, false, false, false, false, false, false, false, false, false] rfl rfl (take_ofW HT_.out HW_.out (by kernel_rfl)) (fun _ _ _ h => h) (Or.inl ⟨by rfl, ?_⟩) hHeld ?_ ?_
    rotate_left
    ·intro w' s0
     go_simp
     with_reducible rfl
    rotate_left
    ·simp only [Act.put, List.setIfInBounds_toArray, List.set_cons_zero, List.set_cons_succ, i64_w, i32_w]
     rfl
    refine one_ (i := 2) (N := some 69) #[true, true, true, false, false, false, false, false, false, false, false] rfl rfl (one_of HT_.out (by kernel_rfl)) (by decide) (fun K hK => ?_)
    refine goes_ Tryd.func33 (by kernel_rfl) rfl #[.agg #[.slice none 0 0]] (by rfl) rfl rfl (by (try simp only [List.map_toArray, List.map_cons, List.map_nil]); first | done | rfl | (simp only [List.length_drop, List.length_take]; rfl)) ?_
    refine (spec_pzGood.calls k _ _ ([] : List (S64)) true _ ?side1 ?side2 A65.out).mono ?_
    (case side1 => exact Kd.C_nil _ _)
    (case side2 => exact Nat.le_refl _)
    rintro e w71 ⟨rfl, hb⟩
    refine ⟨_, rfl, ?_⟩
    have n0_ := Aside0.mk (blk_below (g := gb146) (o := .cells #[.slice none 0 0] 37 (0, 0)) (bk BK146.out) hb)
    have n1_ := Aside0.mk (blk_below (g := gb147) (o := .cells #[.slice none 0 0] 37 (0, 0)) (bk BK147.out) hb)
    have n2_ := Aside0.mk (below_step (hB HB.out) hb)
    clear BK146
    clear BK147
    clear HB
    have BK146 := n0_
    have BK147 := n1_
    have HB := n2_
    clear n0_ n1_ n2_
    (try clear hb)
    (try clear hb2)
    (try clear hk)
    (try clear hi)
    refine hK.out _ _ ((blk_cell BK147.out 0).trans rfl) (fun hHeld => ?_)
    clear hK K
    refine norm_ (a' := ?_) ?_ ?_
    rotate_left
    ·show Act.put _ (some 69) _ = _
     simp only [Act.put, List.setIfInBounds_toArray, List.set_cons_zero, List.set_cons_succ, i64_w, i32_w]
     rfl
    refine pure_ (i := 3) (N := some 70) (v := ?_) (a' := ?_) #[true, true, true, true, false, false, false, false, false, false, false] rfl rfl (any_of HT_.out (by kernel_rfl)) (fun _ _ _ h => h) (Or.inl ⟨by rfl, ?_⟩) ?_ ?_
    rotate_left
    ·intro w'
     go_simp
     with_reducible rfl
    rotate_left
    ·simp only [Act.put, List.setIfInBounds_toArray, List.set_cons_zero, List.set_cons_succ, i64_w, i32_w]
     rfl
    refine pure_ (i := 6) (N := some 73) (v := ?_) (a' := ?_) #[true, true, true, true, false, false, true, false, false, false, false] rfl rfl (any_of HT_.out (by kernel_rfl)) (fun _ _ _ h => h) (Or.inl ⟨by rfl, ?_⟩) ?_ ?_
    rotate_left
    ·intro w'
     go_simp
     with_reducible rfl
    rotate_left
    ·simp only [Act.put, List.setIfInBounds_toArray, List.set_cons_zero, List.set_cons_succ, i64_w, i32_w]
     rfl
    refine take_ (i := 4) (N := some 71) (v := ?_) (a' := ?_) #[true, true, true, true, true, false, true, false, false, false, false] rfl rfl (take_ofW HT_.out HW_.out (by kernel_rfl)) (fun _ _ _ h => h) (Or.inl ⟨by rfl, ?_⟩) hHeld ?_ ?_
    rotate_left
    ·intro w' s0
     go_simp
     with_reducible rfl
    rotate_left
    ·simp only [Act.put, List.setIfInBounds_toArray, List.set_cons_zero, List.set_cons_succ, i64_w, i32_w]
     rfl
    refine one_ (i := 5) (N := some 72) #[true, true, true, true, true, true, true, false, false, false, false] rfl rfl (one_of HT_.out (by kernel_rfl)) (by decide) (fun K hK => ?_)
    refine goes_ Tryd.func34 (by kernel_rfl) rfl #[.agg #[.slice none 0 0]] (by rfl) rfl rfl (by (try simp only [List.map_toArray, List.map_cons, List.map_nil]); first | done | rfl | (simp only [List.length_drop, List.length_take]; rfl)) ?_
    refine (spec_pzText.calls k _ _ ([] : List (S64)) t178 _ ?side1 ?side2 A67.out).mono ?_
    (case side1 => exact Kd.C_nil _ _)
    (case side2 => exact Nat.le_refl _)
    rintro e w72 ⟨rfl, hb⟩
    refine ⟨_, rfl, ?_⟩
    have n0_ := Aside0.mk (blk_below (g := gb146) (o := .cells #[.slice none 0 0] 37 (0, 0)) (bk BK146.out) hb)
    have n1_ := Aside0.mk (blk_below (g := gb147) (o := .cells #[.slice none 0 0] 37 (0, 0)) (bk BK147.out) hb)
    have n2_ := Aside0.mk (below_step (hB HB.out) hb)
    clear BK146
    clear BK147
    clear HB
    have BK146 := n0_
    have BK147 := n1_
    have HB := n2_
    clear n0_ n1_ n2_
    (try clear hb)
    (try clear hb2)
    (try clear hk)
    (try clear hi)
    refine hK.out _ _ ((blk_cell BK147.out 0).trans rfl) (fun hHeld => ?_)
    clear hK K
    refine norm_ (a' := ?_) ?_ ?_
    rotate_left
    ·show Act.put _ (some 72) _ = _
     simp only [Act.put, List.setIfInBounds_toArray, List.set_cons_zero, List.set_cons_succ, i64_w, i32_w]
     rfl
    refine pure_ (i := 7) (N := some 74) (v := ?_) (a' := ?_) #[true, true, true, true, true, true, true, true, false, false, false] rfl rfl (any_of HT_.out (by kernel_rfl)) (fun _ _ _ h => h) (Or.inl ⟨by rfl, ?_⟩) ?_ ?_
    rotate_left
    ·intro w'
     go_simp
     with_reducible rfl
    rotate_left
    ·simp only [Act.put, List.setIfInBounds_toArray, List.set_cons_zero, List.set_cons_succ, i64_w, i32_w]
     rfl
    refine pure_ (i := 8) (N := some 75) (v := ?_) (a' := ?_) #[true, true, true, true, true, true, true, true, true, false, false] rfl rfl (any_of HT_.out (by kernel_rfl)) (fun _ _ _ h => h) (Or.inl ⟨by rfl, ?_⟩) ?_ ?_
    rotate_left
    ·intro w'
     go_simp
     with_reducible rfl
    rotate_left
    ·simp only [Act.put, List.setIfInBounds_toArray, List.set_cons_zero, List.set_cons_succ, i64_w, i32_w]
     rfl
    refine one_ (i := 9) (N := none) #[true, true, true, true, true, true, true, true, true, true, false] rfl rfl (one_of HT_.out (by kernel_rfl)) (by decide) (fun K hK => ?_)
    have hs73 : w72.cell? ⟨gb146, 0, none⟩ = some (.slice none 0 0) := (blk_cell BK146.out 0).trans rfl
    have hfs73 := blk_frozen BK146.out 0
    have hns73_1 := NB147_146.out
    have hms73_1 := NB146_147.out
    refine skip_ (w1 := ?_) (by rfl) rfl ?_ ?_
    rotate_left
    ·go_simp
     rfl
    refine hK.out _ _ (((cell_far (p := ⟨gb146, _, none⟩) NB147_146.out _).trans (hHeld))) (fun hHeld => ?_)
    clear hK K
    refine pure_ (i := 10) (N := some 3) (v := ?_) (a' := ?_) #[true, true, true, true, true, true, true, true, true, true, true] rfl rfl (any_of HT_.out (by kernel_rfl)) (fun _ _ _ h => h) (Or.inl ⟨by rfl, ?_⟩) ?_ ?_
    rotate_left
    ·intro w'
     go_simp
     with_reducible rfl
    rotate_left
    ·simp only [Act.put, List.setIfInBounds_toArray, List.set_cons_zero, List.set_cons_succ, i64_w, i32_w]
     rfl
    refine done_ (done_of HT_.out (by kernel_rfl)) ?_
    try go_wp2
    refine bodyPost_ret (results_ct rfl _ _ gb146 37 #[.slice none 0 0] (0, 0) _ rfl (by (with_reducible repeat (first | refine blk_drewN ?_ _ | refine blk_drew ?_ | refine blk_alloc ?_ _)); refine blk_put (cs := #[.slice none 0 0]) ?_ 0 _ rfl; (with_reducible repeat (first | refine blk_drewN ?_ _ | refine blk_drew ?_ | refine blk_alloc ?_ _)); exact BK146.out) Tryd.underlying37 rfl (by kernel_rfl)) rfl ?_
    exact ⟨_, by first | rfl | (simp [errW_none, errW_some] <;> rfl) | (simp [*, errW_none, errW_some] <;> rfl), by first | exact Kd.R_nil _ _ _ _ _ | exact Kd.N_nil _ _ _ _ _ | exact Kd.V_nil _ _ _ _ _ | exact Kd.Q_nil _ _ _ _ _ | exact Kd.S_nil _ _ _ _ _, hB HB.out⟩
   ·replace c66 := Bool.eq_false_iff.mpr c66
    subst c66
    have H1 : (some (([] : List (S64)), false)) = some (r1, r2) := by rw [if_neg (show ¬ (false = true) by decide)] at H; exact H
    clear H
    have H := H1
    clear H1
    simp only [Option.some.injEq, Prod.mk.injEq] at H
    obtain ⟨rfl, rfl⟩ := H
    go_enter Tryd.func41, Tryd.ntmps41
    try go_wp2_with (first | ((with_reducible refine gate_dst (N := 2) rfl ?_); refine box_event ?hg (N := 2) ?hd (cs := #[.slice none 0 0]) (t := 37) ?hr ?_; (case hd => rfl); (case hg => rfl); (case hr => first | (go_simp; done) | (go_simp; rfl)); intro gb146 hg w74 hbox hb; have n0_ := Aside0.mk (below_step (hB HB.out) hb); have n1_ := Aside0.mk (hbox); have n2_ := Aside0.mk ((by rw [hg]; exact (below_size (hB HB.out)) : w.heap.size ≤ gb146)); have n3_ := Aside0.mk ((by rw [hg]; exact (below_size (hB HB.out)) : w.heap.size ≤ gb146)); clear HB; have HB := n0_; have BK146 := n1_; have GW146 := n2_; have GE146 := n3_; clear n0_ n1_ n2_ n3_; clear hb hbox hg) | ((with_reducible refine gate_dst (N := 4) rfl ?_); refine box_event ?hg (N := 4) ?hd (cs := #[.slice none 0 0]) (t := 37) ?hr ?_; (case hd => rfl); (case hg => rfl); (case hr => first | (go_simp; done) | (go_simp; rfl)); intro gb147 hg w75 hbox hb; have n0_ := Aside0.mk (blk_below (g := gb146) (o := .cells #[.slice none 0 0] 37 (0, 0)) (bk BK146.out) hb); have n1_ := Aside0.mk (below_step (hB HB.out) hb); have n2_ := Aside0.mk (hbox); have n3_ := Aside0.mk ((by rw [hg]; exact (below_size (hB HB.out)) : w.heap.size ≤ gb147)); have n4_ := Aside0.mk ((by rw [hg]; exact (below_size (hB HB.out)) : w.heap.size ≤ gb147)); have n5_ := Aside0.mk ((by rw [hg]; exact Nat.ne_of_lt (blk_lt (g := gb146) (o := .cells #[.slice none 0 0] 37 (0, 0)) (bk BK146.out)) : gb146 ≠ gb147)); have n6_ := Aside0.mk ((by rw [hg]; exact Nat.ne_of_gt (blk_lt (g := gb146) (o := .cells #[.slice none 0 0] 37 (0, 0)) (bk BK146.out)) : gb147 ≠ gb146)); clear BK146; clear HB; have BK146 := n0_; have HB := n1_; have BK147 := n2_; have GW147 := n3_; have GE147 := n4_; have NB146_147 := n5_; have NB147_146 := n6_; clear n0_ n1_ n2_ n3_ n4_ n5_ n6_; clear hb hbox hg))
    have n0_ := Aside0.mk (blk_drew BK146.out)
    have n1_ := Aside0.mk (blk_drew BK147.out)
    have n2_ := Aside0.mk (below_drew1 HB.out)
    clear BK146
    clear BK147
    clear HB
    have BK146 := n0_
    have BK147 := n1_
    have HB := n2_
    clear n0_ n1_ n2_
    refine start_ (n := 11) (S := fun w' => w'.cell? ⟨gb147, 0, none⟩ = some (.slice none 0 0)) (ds := []) #[false, false, false, false, false, false, false, false, false, false, false] (by kernel_rfl) rfl rfl ((blk_cell BK147.out 0).trans rfl) (fun hHeld => ?_); refine with_tabW spec_pzParse.tab16 spec_pzParse.bits16 (fun HT_ HW_ => ?_)
    generalize w75.drew = w76 at BK146 BK147 HB hHeld ⊢
    refine take_ (i := 0) (N := some 67) (v := ?_) (a' := ?_) #[true, false, false, false, false, false, false, false, false, false, false] rfl rfl (take_ofW HT_.out HW_.out (by kernel_rfl)) (fun _ _ _ h => h) (Or.inl ⟨by rfl, ?_⟩) hHeld ?_ ?_
    rotate_left
    ·intro w' s0
     go_simp
     with_reducible rfl
    rotate_left
    ·simp only [Act.put, List.setIfInBounds_toArray, List.set_cons_zero, List.set_cons_succ, i64_w, i32_w]
     rfl
    refine take_ (i := 1) (N := some 68) (v := ?_) (a' := ?_) #[true, true, false, false, false, false, false, false, false, false, false] rfl rfl (take_ofW HT_.out HW_.out (by kernel_rfl)) (fun _ _ _ h => h) (Or.inl ⟨by rfl, ?_⟩) hHeld ?_ ?_
    rotate_left
    ·intro w' s0
     go_simp
     with_reducible rfl
    rotate_left
    ·simp only [Act.put, List.setIfInBounds_toArray, List.set_cons_zero, List.set_cons_succ, i64_w, i32_w]
     rfl
    refine one_ (i := 2) (N := some 69) #[true, true, true, false, false, false, false, false, false, false, false] rfl rfl (one_of HT_.out (by kernel_rfl)) (by decide) (fun K hK => ?_)
    refine goes_ Tryd.func33 (by kernel_rfl) rfl #[.agg #[.slice none 0 0]] (by rfl) rfl rfl (by (try simp only [List.map_toArray, List.map_cons, List.map_nil]); first | done | rfl | (simp only [List.length_drop, List.length_take]; rfl)) ?_
    refine (spec_pzGood.calls k _ _ ([] : List (S64)) false _ ?side1 ?side2 A65.out).mono ?_
    (case side1 => exact Kd.C_nil _ _)
    (case side2 => exact Nat.le_refl _)
    rintro e w77 ⟨rfl, hb⟩
    refine ⟨_, rfl, ?_⟩
    have n0_ := Aside0.mk (blk_below (g := gb146) (o := .cells #[.slice none 0 0] 37 (0, 0)) (bk BK146.out) hb)
    have n1_ := Aside0.mk (blk_below (g := gb147) (o := .cells #[.slice none 0 0] 37 (0, 0)) (bk BK147.out) hb)
    have n2_ := Aside0.mk (below_step (hB HB.out) hb)
    clear BK146
    clear BK147
    clear HB
    have BK146 := n0_
    have BK147 := n1_
    have HB := n2_
    clear n0_ n1_ n2_
    (try clear hb)
    (try clear hb2)
    (try clear hk)
    (try clear hi)
    refine hK.out _ _ ((blk_cell BK147.out 0).trans rfl) (fun hHeld => ?_)
    clear hK K
    refine norm_ (a' := ?_) ?_ ?_
    rotate_left
    ·show Act.put _ (some 69) _ = _
     simp only [Act.put, List.setIfInBounds_toArray, List.set_cons_zero, List.set_cons_succ, i64_w, i32_w]
     rfl
    refine pure_ (i := 3) (N := some 70) (v := ?_) (a' := ?_) #[true, true, true, true, false, false, false, false, false, false, false] rfl rfl (any_of HT_.out (by kernel_rfl)) (fun _ _ _ h => h) (Or.inl ⟨by rfl, ?_⟩) ?_ ?_
    rotate_left
    ·intro w'
     go_simp
     with_reducible rfl
    rotate_left
    ·simp only [Act.put, List.setIfInBounds_toArray, List.set_cons_zero, List.set_cons_succ, i64_w, i32_w]
     rfl
    refine pure_ (i := 4) (N := some 71) (v := undef) (a' := ?_) #[true, true, true, true, true, false, false, false, false, false, false] rfl rfl (any_of HT_.out (by kernel_rfl)) (fun _ _ _ h => h) (Or.inr ⟨by rfl, rfl⟩) ?_ ?_
    rotate_left
    ·simp only [Act.put, List.setIfInBounds_toArray, List.set_cons_zero, List.set_cons_succ, i64_w, i32_w]
     rfl
    refine pure_ (i := 5) (N := some 72) (v := undef) (a' := ?_) #[true, true, true, true, true, true, false, false, false, false, false] rfl rfl (any_of HT_.out (by kernel_rfl)) (fun _ _ _ h => h) (Or.inr ⟨by rfl, rfl⟩) ?_ ?_
    rotate_left
    ·simp only [Act.put, List.setIfInBounds_toArray, List.set_cons_zero, List.set_cons_succ, i64_w, i32_w]
     rfl
    refine pure_ (i := 6) (N := some 73) (v := undef) (a' := ?_) #[true, true, true, true, true, true, true, false, false, false, false] rfl rfl (any_of HT_.out (by kernel_rfl)) (fun _ _ _ h => h) (Or.inr ⟨by rfl, rfl⟩) ?_ ?_
    rotate_left
    ·simp only [Act.put, List.setIfInBounds_toArray, List.set_cons_zero, List.set_cons_succ, i64_w, i32_w]
     rfl
    refine pure_ (i := 7) (N := some 74) (v := undef) (a' := ?_) #[true, true, true, true, true, true, true, true, false, false, false] rfl rfl (any_of HT_.out (by kernel_rfl)) (fun _ _ _ h => h) (Or.inr ⟨by rfl, rfl⟩) ?_ ?_
    rotate_left
    ·simp only [Act.put, List.setIfInBounds_toArray, List.set_cons_zero, List.set_cons_succ, i64_w, i32_w]
     rfl
    refine pure_ (i := 8) (N := some 75) (v := ?_) (a' := ?_) #[true, true, true, true, true, true, true, true, true, false, false] rfl rfl (any_of HT_.out (by kernel_rfl)) (fun _ _ _ h => h) (Or.inl ⟨by rfl, ?_⟩) ?_ ?_
    rotate_left
    ·intro w'
     go_simp
     with_reducible rfl
    rotate_left
    ·simp only [Act.put, List.setIfInBounds_toArray, List.set_cons_zero, List.set_cons_succ, i64_w, i32_w]
     rfl
    refine one_ (i := 9) (N := none) #[true, true, true, true, true, true, true, true, true, true, false] rfl rfl (one_of HT_.out (by kernel_rfl)) (by decide) (fun K hK => ?_)
    have hs78 : w77.cell? ⟨gb146, 0, none⟩ = some (.slice none 0 0) := (blk_cell BK146.out 0).trans rfl
    have hfs78 := blk_frozen BK146.out 0
    have hns78_1 := NB147_146.out
    have hms78_1 := NB146_147.out
    refine skip_ (w1 := ?_) (by rfl) rfl ?_ ?_
    rotate_left
    ·go_simp
     rfl
    refine hK.out _ _ (((cell_far (p := ⟨gb146, _, none⟩) NB147_146.out _).trans (hHeld))) (fun hHeld => ?_)
    clear hK K
    refine pure_ (i := 10) (N := some 3) (v := ?_) (a' := ?_) #[true, true, true, true, true, true, true, true, true, true, true] rfl rfl (any_of HT_.out (by kernel_rfl)) (fun _ _ _ h => h) (Or.inl ⟨by rfl, ?_⟩) ?_ ?_
    rotate_left
    ·intro w'
     go_simp
     with_reducible rfl
    rotate_left
    ·simp only [Act.put, List.setIfInBounds_toArray, List.set_cons_zero, List.set_cons_succ, i64_w, i32_w]
     rfl
    refine done_ (done_of HT_.out (by kernel_rfl)) ?_
    try go_wp2
    refine bodyPost_ret (results_ct rfl _ _ gb146 37 #[.slice none 0 0] (0, 0) _ rfl (by (with_reducible repeat (first | refine blk_drewN ?_ _ | refine blk_drew ?_ | refine blk_alloc ?_ _)); refine blk_put (cs := #[.slice none 0 0]) ?_ 0 _ rfl; (with_reducible repeat (first | refine blk_drewN ?_ _ | refine blk_drew ?_ | refine blk_alloc ?_ _)); exact BK146.out) Tryd.underlying37 rfl (by kernel_rfl)) rfl ?_
    exact ⟨_, by first | rfl | (simp [errW_none, errW_some] <;> rfl) | (simp [*, errW_none, errW_some] <;> rfl), by first | exact Kd.R_nil _ _ _ _ _ | exact Kd.N_nil _ _ _ _ _ | exact Kd.V_nil _ _ _ _ _ | exact Kd.Q_nil _ _ _ _ _ | exact Kd.S_nil _ _ _ _ _, hB HB.out⟩

end Go.Proofs.YtjllomlemhjlgaaDoor.QFnExactParsePuzzle
