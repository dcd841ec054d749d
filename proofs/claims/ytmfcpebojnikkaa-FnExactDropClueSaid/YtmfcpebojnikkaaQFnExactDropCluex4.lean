-- written by a program of this session, over the form of the kit's print
import Derived.Test.YtmfcpebojnikkaaQFnExactDropCluex0
import Derived.Test.YtmfcpebojnikkaaQFnExactDropCluex1
import Derived.Test.YtmfcpebojnikkaaQFnExactDropCluex2
import Derived.Test.YtmfcpebojnikkaaQFnExactDropCluex3
namespace Go.Proofs.Ytmfcpebojnikkaa.QFnExactDropClue
open Go.RowKit Go.Proofs.YtmfcpebojnikkaaV Go.Proofs.YtmfcpebojnikkaaW.PrintWords Go.Proofs.YtmfcpebojnikkaaW.PrintLast Go.Proofs.YtmfcpebojnikkaaW.PrintMore
attribute [local go_sem] max2_int min2_int max_two min_two max_three min_three max_four min_four   -- for this text's walks alone
set_option linter.unusedVariables false
set_option linter.unusedSimpArgs false

/-! ### laws_FnExactDropClue: function 6 -/
mutual
def laws_FnExactDropClue.j0 : Nat → Int → Bool → Bool → Bool → List (S34) → List (S39) → List (S39) → List (S39) → Option (Bool)
 | 0, _, _, _, _, _, _, _, _ => none
 | k + 1, x1, x7, x10, x44, x206000, x215000, x219000, x224000 => if x44 = true then (some false) else ((laws_toPuzzle.f k x206000).bind fun t225 => ((laws_eqPuzzle.f k x219000 t225).bind fun t228 => (if t228 = true then ((laws_markPuzzle.f k x219000 1).bind fun bt229 => (if bt229.1 < 0 then (laws_FnExactDropClue.j1 k x1 x7 true x206000 x215000 x224000) else ((laws_eqPuzzle.f k x224000 x215000).bind fun t231 => (if t231 = true then (laws_FnExactDropClue.j1 k x1 x7 (x10 != x7) x206000 x215000 x224000) else (laws_FnExactDropClue.j1 k x1 x7 true x206000 x215000 x224000))))) else (some false))))
def laws_FnExactDropClue.j1 : Nat → Int → Bool → Bool → List (S34) → List (S39) → List (S39) → Option (Bool)
 | 0, _, _, _, _, _, _ => none
 | k + 1, x1, x7, x65, x206000, x215000, x224000 => if x65 = true then (some false) else ((laws_markPuzzle.f k x224000 1).bind fun bt232 => ((laws_heldPuzzle.f k bt232.2 1).bind fun t234 => (if t234 < 0 then (some false) else (if t234 = bt232.1 then ((laws_toPuzzle.f k x206000).bind fun t235 => ((impl_DropClue.f k t235 x1).bind fun bt238 => ((laws_eqPuzzle.f k bt238.1 x215000).bind fun t243 => (if t243 = true then (laws_FnExactDropClue.j2 k bt232.1 (bt238.2 != x7) bt232.2) else (laws_FnExactDropClue.j2 k bt232.1 true bt232.2))))) else (some false)))))
def laws_FnExactDropClue.j2 : Nat → Int → Bool → List (S39) → Option (Bool)
 | 0, _, _, _ => none
 | k + 1, x12, x92, x224000 => if x92 = true then (some false) else ((laws_heldPuzzle.f k x224000 1).bind fun t244 => (if t244 < 0 then (some false) else (if t244 = x12 then (some true) else (some false))))
end
def laws_FnExactDropClue.f (k : Nat) (l0_0 : List (S34)) (a1 : Int) : Option (Bool) := (laws_szPuzzle.f l0_0 1048576).bind fun t206 => (if t206 < 0 then (some true) else ((laws_toPuzzle.f k l0_0).bind fun t207 => ((spec_DropClue.f k t207 a1).bind fun bt210 => ((laws_toPuzzle.f k l0_0).bind fun t215 => ((impl_DropClue.f k t215 a1).bind fun bt219 => ((laws_eqPuzzle.f k bt219.1 bt210.1).bind fun t224 => (if t224 = true then (laws_FnExactDropClue.j0 k a1 bt210.2 bt219.2 (bt219.2 != bt210.2) l0_0 bt210.1 t215 bt219.1) else (laws_FnExactDropClue.j0 k a1 bt210.2 bt219.2 true l0_0 bt210.1 t215 bt219.1))))))))
theorem laws_FnExactDropClue.mono_l : ∀ k, (∀ y0 y1 y2 y3 y4 y5 y6 y7, LeO (laws_FnExactDropClue.j0 k y0 y1 y2 y3 y4 y5 y6 y7) (laws_FnExactDropClue.j0 (k + 1) y0 y1 y2 y3 y4 y5 y6 y7)) ∧ (∀ y0 y1 y2 y3 y4 y5, LeO (laws_FnExactDropClue.j1 k y0 y1 y2 y3 y4 y5) (laws_FnExactDropClue.j1 (k + 1) y0 y1 y2 y3 y4 y5)) ∧ (∀ y0 y1 y2, LeO (laws_FnExactDropClue.j2 k y0 y1 y2) (laws_FnExactDropClue.j2 (k + 1) y0 y1 y2))
 | 0 => ⟨fun _ _ _ _ _ _ _ _ r h => by simp [laws_FnExactDropClue.j0] at h, fun _ _ _ _ _ _ r h => by simp [laws_FnExactDropClue.j1] at h, fun _ _ _ r h => by simp [laws_FnExactDropClue.j2] at h⟩
 | k + 1 => by
  obtain ⟨ih0, ih1, ih2⟩ := laws_FnExactDropClue.mono_l k
  refine ⟨?_, ?_, ?_⟩
  ·intro y0 y1 y2 y3 y4 y5 y6 y7
   unfold laws_FnExactDropClue.j0
   repeat' first
   | (with_reducible exact ih0 _ _ _ _ _ _ _ _)
   | (with_reducible exact ih1 _ _ _ _ _ _)
   | (with_reducible exact ih2 _ _ _)
   | (with_reducible exact impl_DropClue.mono _ _ _)
   | (with_reducible exact laws_eqPuzzle.mono _ _ _)
   | (with_reducible exact laws_heldPuzzle.mono _ _ _)
   | (with_reducible exact laws_markPuzzle.mono _ _ _)
   | (with_reducible exact laws_toPuzzle.mono _ _)
   | (with_reducible exact spec_DropClue.mono _ _ _)
   | (with_reducible exact LeO.refl _)
   | (with_reducible exact LeO.none _)
   | (with_reducible refine LeO.ite ?_ ?_)
   | (with_reducible refine LeO.bind ?_ (fun _ => ?_))
   | exact ih0 _ _ _ _ _ _ _ _
   | exact ih1 _ _ _ _ _ _
   | exact ih2 _ _ _
   | exact impl_DropClue.mono _ _ _
   | exact laws_eqPuzzle.mono _ _ _
   | exact laws_heldPuzzle.mono _ _ _
   | exact laws_markPuzzle.mono _ _ _
   | exact laws_toPuzzle.mono _ _
   | exact spec_DropClue.mono _ _ _
   | exact LeO.none _
   | refine LeO.ite ?_ ?_
   | refine LeO.bind ?_ (fun _ => ?_)
  ·intro y0 y1 y2 y3 y4 y5
   unfold laws_FnExactDropClue.j1
   repeat' first
   | (with_reducible exact ih0 _ _ _ _ _ _ _ _)
   | (with_reducible exact ih1 _ _ _ _ _ _)
   | (with_reducible exact ih2 _ _ _)
   | (with_reducible exact impl_DropClue.mono _ _ _)
   | (with_reducible exact laws_eqPuzzle.mono _ _ _)
   | (with_reducible exact laws_heldPuzzle.mono _ _ _)
   | (with_reducible exact laws_markPuzzle.mono _ _ _)
   | (with_reducible exact laws_toPuzzle.mono _ _)
   | (with_reducible exact spec_DropClue.mono _ _ _)
   | (with_reducible exact LeO.refl _)
   | (with_reducible exact LeO.none _)
   | (with_reducible refine LeO.ite ?_ ?_)
   | (with_reducible refine LeO.bind ?_ (fun _ => ?_))
   | exact ih0 _ _ _ _ _ _ _ _
   | exact ih1 _ _ _ _ _ _
   | exact ih2 _ _ _
   | exact impl_DropClue.mono _ _ _
   | exact laws_eqPuzzle.mono _ _ _
   | exact laws_heldPuzzle.mono _ _ _
   | exact laws_markPuzzle.mono _ _ _
   | exact laws_toPuzzle.mono _ _
   | exact spec_DropClue.mono _ _ _
   | exact LeO.none _
   | refine LeO.ite ?_ ?_
   | refine LeO.bind ?_ (fun _ => ?_)
  ·intro y0 y1 y2
   unfold laws_FnExactDropClue.j2
   repeat' first
   | (with_reducible exact ih0 _ _ _ _ _ _ _ _)
   | (with_reducible exact ih1 _ _ _ _ _ _)
   | (with_reducible exact ih2 _ _ _)
   | (with_reducible exact impl_DropClue.mono _ _ _)
   | (with_reducible exact laws_eqPuzzle.mono _ _ _)
   | (with_reducible exact laws_heldPuzzle.mono _ _ _)
   | (with_reducible exact laws_markPuzzle.mono _ _ _)
   | (with_reducible exact laws_toPuzzle.mono _ _)
   | (with_reducible exact spec_DropClue.mono _ _ _)
   | (with_reducible exact LeO.refl _)
   | (with_reducible exact LeO.none _)
   | (with_reducible refine LeO.ite ?_ ?_)
   | (with_reducible refine LeO.bind ?_ (fun _ => ?_))
   | exact ih0 _ _ _ _ _ _ _ _
   | exact ih1 _ _ _ _ _ _
   | exact ih2 _ _ _
   | exact impl_DropClue.mono _ _ _
   | exact laws_eqPuzzle.mono _ _ _
   | exact laws_heldPuzzle.mono _ _ _
   | exact laws_markPuzzle.mono _ _ _
   | exact laws_toPuzzle.mono _ _
   | exact spec_DropClue.mono _ _ _
   | exact LeO.none _
   | refine LeO.ite ?_ ?_
   | refine LeO.bind ?_ (fun _ => ?_)
theorem laws_FnExactDropClue.mono : ∀ a0 a1 k, LeO (laws_FnExactDropClue.f k a0 a1) (laws_FnExactDropClue.f (k + 1) a0 a1) := by
 intro a0 a1 k
 obtain ⟨ih0, ih1, ih2⟩ := laws_FnExactDropClue.mono_l k
 unfold laws_FnExactDropClue.f
 repeat' first
   | (with_reducible exact ih0 _ _ _ _ _ _ _ _)
   | (with_reducible exact ih1 _ _ _ _ _ _)
   | (with_reducible exact ih2 _ _ _)
   | (with_reducible exact impl_DropClue.mono _ _ _)
   | (with_reducible exact laws_eqPuzzle.mono _ _ _)
   | (with_reducible exact laws_heldPuzzle.mono _ _ _)
   | (with_reducible exact laws_markPuzzle.mono _ _ _)
   | (with_reducible exact laws_toPuzzle.mono _ _)
   | (with_reducible exact spec_DropClue.mono _ _ _)
   | (with_reducible exact LeO.refl _)
   | (with_reducible exact LeO.none _)
   | (with_reducible refine LeO.ite ?_ ?_)
   | (with_reducible refine LeO.bind ?_ (fun _ => ?_))
   | exact ih0 _ _ _ _ _ _ _ _
   | exact ih1 _ _ _ _ _ _
   | exact ih2 _ _ _
   | exact impl_DropClue.mono _ _ _
   | exact laws_eqPuzzle.mono _ _ _
   | exact laws_heldPuzzle.mono _ _ _
   | exact laws_markPuzzle.mono _ _ _
   | exact laws_toPuzzle.mono _ _
   | exact spec_DropClue.mono _ _ _
   | exact LeO.none _
   | refine LeO.ite ?_ ?_
   | refine LeO.bind ?_ (fun _ => ?_)
set_option maxHeartbeats 8000000 in
set_option maxRecDepth 100000 in
theorem laws_FnExactDropClue.calls (k : Nat) (A0_0 : Option Addr) (c0_0 : Nat) (l0_0 : List (S34)) (a1 : Int) (r : Bool) (w : World) (hr0_0 : Kd.C k34 w A0_0 l0_0.length l0_0) (hc0_0 : l0_0.length ≤ c0_0) (h : laws_FnExactDropClue.f k l0_0 a1 = some r) :
  Calls Try.prog 6 #[.agg #[.slice A0_0 l0_0.length c0_0], .int .i64 a1] w fun e w' => e = .returned (.bool r) ∧ Below w.heap.size w w' := by
 have hu24 := Try.underlying24
 have hu29 := Try.underlying29
 have HR0_0 := Aside0.mk hr0_0
 have HC0_0 := Aside0.mk hc0_0
 clear hr0_0 hc0_0
 have HB := Aside0.mk (Below.refl w.heap.size w)
 have H : ((laws_szPuzzle.f l0_0 1048576).bind fun t206 => (if t206 < 0 then (some true) else ((laws_toPuzzle.f k l0_0).bind fun t207 => ((spec_DropClue.f k t207 a1).bind fun bt210 => ((laws_toPuzzle.f k l0_0).bind fun t215 => ((impl_DropClue.f k t215 a1).bind fun bt219 => ((laws_eqPuzzle.f k bt219.1 bt210.1).bind fun t224 => (if t224 = true then (laws_FnExactDropClue.j0 k a1 bt210.2 bt219.2 (bt219.2 != bt210.2) l0_0 bt210.1 t215 bt219.1) else (laws_FnExactDropClue.j0 k a1 bt210.2 bt219.2 true l0_0 bt210.1 t215 bt219.1))))))))) = some r := h
 clear h
 replace H := Option.bind_eq_some_iff.mp H
 obtain ⟨t206, A30, H⟩ := H
 replace H : (if t206 < 0 then (some true) else ((laws_toPuzzle.f k l0_0).bind fun t207 => ((spec_DropClue.f k t207 a1).bind fun bt210 => ((laws_toPuzzle.f k l0_0).bind fun t215 => ((impl_DropClue.f k t215 a1).bind fun bt219 => ((laws_eqPuzzle.f k bt219.1 bt210.1).bind fun t224 => (if t224 = true then (laws_FnExactDropClue.j0 k a1 bt210.2 bt219.2 (bt219.2 != bt210.2) l0_0 bt210.1 t215 bt219.1) else (laws_FnExactDropClue.j0 k a1 bt210.2 bt219.2 true l0_0 bt210.1 t215 bt219.1)))))))) = some r := H
 have A3 := Aside0.mk A30
 clear A30
 by_cases c4 : t206 < 0
 ·rw [if_pos c4] at H
  have c4b0 : decide (t206 < 0) = true := decide_eq_true c4
  clear c4
  obtain rfl := Option.some.inj H
  go_enter Try.func6, Try.ntmps6
  go_wp2_with (first | ((with_reducible refine gate_dst (N := 2) rfl ?_); refine box_event ?hg (N := 2) ?hd (cs := #[.slice A0_0 l0_0.length c0_0]) (t := 24) ?hr ?_; (case hd => rfl); (case hg => rfl); (case hr => first | (go_simp; done) | (go_simp; rfl)); intro gb205 hg w5 hbox hb; have n0_ := Aside0.mk (below_step (hB HB.out) hb); have n1_ := Aside0.mk (hbox); have n2_ := Aside0.mk ((by rw [hg]; exact (below_size (hB HB.out)) : w.heap.size ≤ gb205)); have n3_ := Aside0.mk ((by rw [hg]; exact (below_size (hB HB.out)) : w.heap.size ≤ gb205)); clear HB; have HB := n0_; have BK205 := n1_; have GW205 := n2_; have GE205 := n3_; clear n0_ n1_ n2_ n3_; clear hb hbox hg; have hcz6_0 : w5.cell? ⟨gb205, 0, none⟩ = some (.slice A0_0 l0_0.length c0_0) := (blk_cell BK205.out 0).trans rfl; have hfz6_0 := blk_frozen BK205.out 0) | ((with_reducible refine gate_callee (f := 15) rfl ?_); refine goesL_ (some 18) rfl rfl Try.func15 (by kernel_rfl) rfl #[.agg #[.slice A0_0 l0_0.length c0_0], .int .i64 1048576] rfl (by (try simp only [List.map_toArray, List.map_cons, List.map_nil]); first | done | rfl | (simp only [List.length_drop, List.length_take]; rfl)) ?_; (with_reducible refine (laws_szPuzzle.calls _ _ l0_0 1048576 t206 _ ?side1 ?side2 A3.out).mono ?_); (case side1 => repeat (first | exact (Kd.C_below HR0_0.out HB.out) | (with_reducible refine Kd.C_alloc ?_ _) | (with_reducible refine Kd.C_drewN ?_ _) | (with_reducible refine Kd.C_drew ?_))); (case side2 => exact HC0_0.out); rintro e w7 ⟨rfl, hb⟩; refine ⟨_, rfl, ?_⟩; have n0_ := Aside0.mk (blk_below (g := gb205) (o := .cells #[.slice A0_0 l0_0.length c0_0] 24 (0, 0)) (bk BK205.out) hb); have n1_ := Aside0.mk (below_step (hB HB.out) hb); clear BK205; clear HB; have BK205 := n0_; have HB := n1_; clear n0_ n1_; (try clear hb); (try clear hb2); (try clear hk); (try clear hi)))
  go_ret
  exact ⟨by first | rfl | (simp [errW_none, errW_some] <;> rfl) | (simp [*, errW_none, errW_some] <;> rfl), hB HB.out⟩
 ·rw [if_neg c4] at H
  have c4b0 : decide (t206 < 0) = false := decide_eq_false c4
  clear c4
  replace H := Option.bind_eq_some_iff.mp H
  obtain ⟨t207, A80, H⟩ := H
  replace H : ((spec_DropClue.f k t207 a1).bind fun bt210 => ((laws_toPuzzle.f k l0_0).bind fun t215 => ((impl_DropClue.f k t215 a1).bind fun bt219 => ((laws_eqPuzzle.f k bt219.1 bt210.1).bind fun t224 => (if t224 = true then (laws_FnExactDropClue.j0 k a1 bt210.2 bt219.2 (bt219.2 != bt210.2) l0_0 bt210.1 t215 bt219.1) else (laws_FnExactDropClue.j0 k a1 bt210.2 bt219.2 true l0_0 bt210.1 t215 bt219.1)))))) = some r := H
  have A8 := Aside0.mk A80
  clear A80
  replace H := Option.bind_eq_some_iff.mp H
  obtain ⟨⟨t210, t213⟩, A90, H⟩ := H
  replace H : ((laws_toPuzzle.f k l0_0).bind fun t215 => ((impl_DropClue.f k t215 a1).bind fun bt219 => ((laws_eqPuzzle.f k bt219.1 t210).bind fun t224 => (if t224 = true then (laws_FnExactDropClue.j0 k a1 t213 bt219.2 (bt219.2 != t213) l0_0 t210 t215 bt219.1) else (laws_FnExactDropClue.j0 k a1 t213 bt219.2 true l0_0 t210 t215 bt219.1))))) = some r := H
  have A9 := Aside0.mk A90
  clear A90
  replace H := Option.bind_eq_some_iff.mp H
  obtain ⟨t215, A100, H⟩ := H
  replace H : ((impl_DropClue.f k t215 a1).bind fun bt219 => ((laws_eqPuzzle.f k bt219.1 t210).bind fun t224 => (if t224 = true then (laws_FnExactDropClue.j0 k a1 t213 bt219.2 (bt219.2 != t213) l0_0 t210 t215 bt219.1) else (laws_FnExactDropClue.j0 k a1 t213 bt219.2 true l0_0 t210 t215 bt219.1)))) = some r := H
  have A10 := Aside0.mk A100
  clear A100
  replace H := Option.bind_eq_some_iff.mp H
  obtain ⟨⟨t219, t222⟩, A110, H⟩ := H
  replace H : ((laws_eqPuzzle.f k t219 t210).bind fun t224 => (if t224 = true then (laws_FnExactDropClue.j0 k a1 t213 t222 (t222 != t213) l0_0 t210 t215 t219) else (laws_FnExactDropClue.j0 k a1 t213 t222 true l0_0 t210 t215 t219))) = some r := H
  have A11 := Aside0.mk A110
  clear A110
  have HC12 := Aside0.mk H
  clear H
  go_enter Try.func6, Try.ntmps6
  go_upto_region 8 with (first | ((with_reducible refine gate_dst (N := 2) rfl ?_); refine box_event ?hg (N := 2) ?hd (cs := #[.slice A0_0 l0_0.length c0_0]) (t := 24) ?hr ?_; (case hd => rfl); (case hg => rfl); (case hr => first | (go_simp; done) | (go_simp; rfl)); intro gb205 hg w13 hbox hb; have n0_ := Aside0.mk (below_step (hB HB.out) hb); have n1_ := Aside0.mk (hbox); have n2_ := Aside0.mk ((by rw [hg]; exact (below_size (hB HB.out)) : w.heap.size ≤ gb205)); have n3_ := Aside0.mk ((by rw [hg]; exact (below_size (hB HB.out)) : w.heap.size ≤ gb205)); clear HB; have HB := n0_; have BK205 := n1_; have GW205 := n2_; have GE205 := n3_; clear n0_ n1_ n2_ n3_; clear hb hbox hg; have hcz14_0 : w13.cell? ⟨gb205, 0, none⟩ = some (.slice A0_0 l0_0.length c0_0) := (blk_cell BK205.out 0).trans rfl; have hfz14_0 := blk_frozen BK205.out 0) | ((with_reducible refine gate_callee (f := 15) rfl ?_); refine goesL_ (some 18) rfl rfl Try.func15 (by kernel_rfl) rfl #[.agg #[.slice A0_0 l0_0.length c0_0], .int .i64 1048576] rfl (by (try simp only [List.map_toArray, List.map_cons, List.map_nil]); first | done | rfl | (simp only [List.length_drop, List.length_take]; rfl)) ?_; (with_reducible refine (laws_szPuzzle.calls _ _ l0_0 1048576 t206 _ ?side1 ?side2 A3.out).mono ?_); (case side1 => repeat (first | exact (Kd.C_below HR0_0.out HB.out) | (with_reducible refine Kd.C_alloc ?_ _) | (with_reducible refine Kd.C_drewN ?_ _) | (with_reducible refine Kd.C_drew ?_))); (case side2 => exact HC0_0.out); rintro e w15 ⟨rfl, hb⟩; refine ⟨_, rfl, ?_⟩; have n0_ := Aside0.mk (blk_below (g := gb205) (o := .cells #[.slice A0_0 l0_0.length c0_0] 24 (0, 0)) (bk BK205.out) hb); have n1_ := Aside0.mk (below_step (hB HB.out) hb); clear BK205; clear HB; have BK205 := n0_; have HB := n1_; clear n0_ n1_; (try clear hb); (try clear hb2); (try clear hk); (try clear hi); have hcz16_0 : w15.cell? ⟨gb205, 0, none⟩ = some (.slice A0_0 l0_0.length c0_0) := (blk_cell BK205.out 0).trans rfl; have hfz16_0 := blk_frozen BK205.out 0) | ((with_reducible refine gate_callee (f := 17) rfl ?_); refine goesL_ (some 23) rfl rfl Try.func17 (by kernel_rfl) rfl #[.agg #[.slice A0_0 l0_0.length c0_0]] rfl (by (try simp only [List.map_toArray, List.map_cons, List.map_nil]); first | done | rfl | (simp only [List.length_drop, List.length_take]; rfl)) ?_; (with_reducible refine (laws_toPuzzle.calls k _ _ l0_0 t207 _ ?side1 ?side2 A8.out).mono ?_); (case side1 => repeat (first | exact (Kd.C_below HR0_0.out HB.out) | (with_reducible refine Kd.C_alloc ?_ _) | (with_reducible refine Kd.C_drewN ?_ _) | (with_reducible refine Kd.C_drew ?_))); (case side2 => exact HC0_0.out); rintro e w17 ⟨v208, rfl, ho0, hb⟩; refine ⟨_, rfl, ?_⟩; have n0_ := Aside0.mk (Kd.R_lower ho0 (below_size (hB HB.out))); have n1_ := Aside0.mk (blk_below (g := gb205) (o := .cells #[.slice A0_0 l0_0.length c0_0] 24 (0, 0)) (bk BK205.out) hb); have n2_ := Aside0.mk (below_step (hB HB.out) hb); clear BK205; clear HB; have HO209 := n0_; have BK205 := n1_; have HB := n2_; clear n0_ n1_ n2_; (try clear hb); (try clear hb2); (try clear hk); (try clear hi); (try clear ho0); obtain ⟨Ao18, co18, eo18⟩ := Kd.R_slice HO209.out; subst eo18) | ((with_reducible refine gate_callee (f := 28) rfl ?_); refine goesL_ (some 25) rfl rfl Try.func28 (by kernel_rfl) rfl #[.agg #[.slice Ao18 t207.length co18], .int .i64 a1] rfl (by (try simp only [List.map_toArray, List.map_cons, List.map_nil]); first | done | rfl | (simp only [List.length_drop, List.length_take]; rfl)) ?_; (with_reducible refine (spec_DropClue.calls k _ _ t207 a1 t210 t213 _ ?side1 ?side2 A9.out).mono ?_); (case side1 => repeat (first | exact (Kd.R_reads' HO209.out).2.2 | (with_reducible refine Kd.C_alloc ?_ _) | (with_reducible refine Kd.C_drewN ?_ _) | (with_reducible refine Kd.C_drew ?_))); (case side2 => exact (Kd.R_reads' HO209.out).2.1); rintro e w19 ⟨v211, rfl, ho0, hb⟩; refine ⟨_, rfl, ?_⟩; have n0_ := Aside0.mk (Kd.R_elder' (rk HO209.out) (Kd.R_base ho0) hb); have n1_ := Aside0.mk (Kd.R_lower (Kd.R_new' ho0 (Kd.R_lt (rk HO209.out))) (below_size (hB HB.out))); have n2_ := Aside0.mk (blk_below (g := gb205) (o := .cells #[.slice A0_0 l0_0.length c0_0] 24 (0, 0)) (bk BK205.out) hb); have n3_ := Aside0.mk (below_step (hB HB.out) hb); clear HO209; clear BK205; clear HB; have HO209 := n0_; have HO212 := n1_; have BK205 := n2_; have HB := n3_; clear n0_ n1_ n2_ n3_; (try clear hb); (try clear hb2); (try clear hk); (try clear hi); (try clear ho0)) | ((with_reducible refine gate_dst (N := 6) rfl ?_); refine box_event ?hg (N := 6) ?hd (cs := #[.slice none 0 0]) (t := 29) ?hr ?_; (case hd => rfl); (case hg => rfl); (case hr => first | (go_simp; done) | (go_simp; rfl)); intro gb214 hg w20 hbox hb; have n0_ := Aside0.mk (Kd.R_below (rk HO209.out) hb); have n1_ := Aside0.mk (Kd.R_below (rk HO212.out) hb); have n2_ := Aside0.mk (blk_below (g := gb205) (o := .cells #[.slice A0_0 l0_0.length c0_0] 24 (0, 0)) (bk BK205.out) hb); have n3_ := Aside0.mk (below_step (hB HB.out) hb); have n4_ := Aside0.mk (hbox); have n5_ := Aside0.mk ((by rw [hg]; exact (below_size (hB HB.out)) : w.heap.size ≤ gb214)); have n6_ := Aside0.mk ((by rw [hg]; exact (below_size (hB HB.out)) : w.heap.size ≤ gb214)); have n7_ := Aside0.mk ((by rw [hg]; exact Nat.ne_of_lt (blk_lt (g := gb205) (o := .cells #[.slice A0_0 l0_0.length c0_0] 24 (0, 0)) (bk BK205.out)) : gb205 ≠ gb214)); have n8_ := Aside0.mk ((by rw [hg]; exact Nat.ne_of_gt (blk_lt (g := gb205) (o := .cells #[.slice A0_0 l0_0.length c0_0] 24 (0, 0)) (bk BK205.out)) : gb214 ≠ gb205)); clear HO209; clear HO212; clear BK205; clear HB; have HO209 := n0_; have HO212 := n1_; have BK205 := n2_; have HB := n3_; have BK214 := n4_; have GW214 := n5_; have GE214 := n6_; have NB205_214 := n7_; have NB214_205 := n8_; clear n0_ n1_ n2_ n3_ n4_ n5_ n6_ n7_ n8_; clear hb hbox hg; obtain ⟨Ao21, co21, eo21⟩ := Kd.R_slice HO212.out; subst eo21; have hnb22 := NB214_205.out; have hnc22 := NB205_214.out; have hcz23_0 : w20.cell? ⟨gb214, 0, none⟩ = some (.slice none 0 0) := (blk_cell BK214.out 0).trans rfl; have hfz23_0 := blk_frozen BK214.out 0; have hcz24_0 : w20.cell? ⟨gb205, 0, none⟩ = some (.slice A0_0 l0_0.length c0_0) := (blk_cell BK205.out 0).trans rfl; have hfz24_0 := blk_frozen BK205.out 0) | ((with_reducible refine gate_callee (f := 17) rfl ?_); refine goesL_ (some 29) rfl rfl Try.func17 (by kernel_rfl) rfl #[.agg #[.slice A0_0 l0_0.length c0_0]] rfl (by (try simp only [List.map_toArray, List.map_cons, List.map_nil]); first | done | rfl | (simp only [List.length_drop, List.length_take]; rfl)) ?_; (with_reducible refine (laws_toPuzzle.calls k _ _ l0_0 t215 _ ?side1 ?side2 A10.out).mono ?_); (case side1 => exact Kd.C_below HR0_0.out (hB HB.out)); (case side2 => exact HC0_0.out); rintro e w25 ⟨v216, rfl, ho0, hb⟩; refine ⟨_, rfl, ?_⟩; have n0_ := Aside0.mk (Kd.R_elder' (rk (Kd.R_mono (Kd.R_far (p := ⟨gb214, 0, none⟩) (Kd.R_types HO209.out BK214.out (by decide)) (fun _ hk => hk.2) (.slice Ao21 t210.length co21)) (fun _ h_ => h_.1))) (Kd.R_base ho0) hb); have n1_ := Aside0.mk (Kd.R_elder' (rk (Kd.R_mono (Kd.R_far (p := ⟨gb214, 0, none⟩) (Kd.R_types HO212.out BK214.out (by decide)) (fun _ hk => hk.2) (.slice Ao21 t210.length co21)) (fun _ h_ => h_.1))) (Kd.R_base ho0) hb); have n2_ := Aside0.mk (Kd.R_lower (Kd.R_new' (Kd.R_new' ho0 (Kd.R_lt (rk (Kd.R_mono (Kd.R_far (p := ⟨gb214, 0, none⟩) (Kd.R_types HO209.out BK214.out (by decide)) (fun _ hk => hk.2) (.slice Ao21 t210.length co21)) (fun _ h_ => h_.1))))) (Kd.R_lt (rk (Kd.R_mono (Kd.R_far (p := ⟨gb214, 0, none⟩) (Kd.R_types HO212.out BK214.out (by decide)) (fun _ hk => hk.2) (.slice Ao21 t210.length co21)) (fun _ h_ => h_.1))))) (below_size (hB HB.out))); have n3_ := Aside0.mk (blk_below (g := gb205) (o := .cells #[.slice A0_0 l0_0.length c0_0] 24 (0, 0)) (by (with_reducible repeat (first | refine blk_drewN ?_ _ | refine blk_drew ?_ | refine blk_alloc ?_ _)); refine blk_far ?_ NB205_214.out _; (with_reducible repeat (first | refine blk_drewN ?_ _ | refine blk_drew ?_ | refine blk_alloc ?_ _)); exact BK205.out) hb); have n4_ := Aside0.mk (blk_below (g := gb214) (o := .cells #[.slice Ao21 t210.length co21] 29 (0, 0)) (by (with_reducible repeat (first | refine blk_drewN ?_ _ | refine blk_drew ?_ | refine blk_alloc ?_ _)); refine blk_put (cs := #[.slice none 0 0]) ?_ 0 _ rfl; (with_reducible repeat (first | refine blk_drewN ?_ _ | refine blk_drew ?_ | refine blk_alloc ?_ _)); exact BK214.out) hb); have n5_ := Aside0.mk (below_step (hB HB.out) hb); clear HO209; clear HO212; clear BK205; clear BK214; clear HB; have HO209 := n0_; have HO212 := n1_; have HO217 := n2_; have BK205 := n3_; have BK214 := n4_; have HB := n5_; clear n0_ n1_ n2_ n3_ n4_ n5_; (try clear hb); (try clear hb2); (try clear hk); (try clear hi); (try clear ho0)) | ((with_reducible refine gate_dst (N := 8) rfl ?_); refine box_event ?hg (N := 8) ?hd (cs := #[.slice none 0 0]) (t := 29) ?hr ?_; (case hd => rfl); (case hg => rfl); (case hr => first | (go_simp; done) | (go_simp; rfl)); intro gb218 hg w26 hbox hb; have n0_ := Aside0.mk (Kd.R_below (rk HO209.out) hb); have n1_ := Aside0.mk (Kd.R_below (rk HO212.out) hb); have n2_ := Aside0.mk (Kd.R_below (rk HO217.out) hb); have n3_ := Aside0.mk (blk_below (g := gb205) (o := .cells #[.slice A0_0 l0_0.length c0_0] 24 (0, 0)) (bk BK205.out) hb); have n4_ := Aside0.mk (blk_below (g := gb214) (o := .cells #[.slice Ao21 t210.length co21] 29 (0, 0)) (bk BK214.out) hb); have n5_ := Aside0.mk (below_step (hB HB.out) hb); have n6_ := Aside0.mk (hbox); have n7_ := Aside0.mk ((by rw [hg]; exact (below_size (hB HB.out)) : w.heap.size ≤ gb218)); have n8_ := Aside0.mk ((by rw [hg]; exact (below_size (hB HB.out)) : w.heap.size ≤ gb218)); have n9_ := Aside0.mk ((by rw [hg]; exact Nat.ne_of_lt (blk_lt (g := gb205) (o := .cells #[.slice A0_0 l0_0.length c0_0] 24 (0, 0)) (bk BK205.out)) : gb205 ≠ gb218)); have n10_ := Aside0.mk ((by rw [hg]; exact Nat.ne_of_gt (blk_lt (g := gb205) (o := .cells #[.slice A0_0 l0_0.length c0_0] 24 (0, 0)) (bk BK205.out)) : gb218 ≠ gb205)); have n11_ := Aside0.mk ((by rw [hg]; exact Nat.ne_of_lt (blk_lt (g := gb214) (o := .cells #[.slice Ao21 t210.length co21] 29 (0, 0)) (bk BK214.out)) : gb214 ≠ gb218)); have n12_ := Aside0.mk ((by rw [hg]; exact Nat.ne_of_gt (blk_lt (g := gb214) (o := .cells #[.slice Ao21 t210.length co21] 29 (0, 0)) (bk BK214.out)) : gb218 ≠ gb214)); clear HO209; clear HO212; clear HO217; clear BK205; clear BK214; clear HB; have HO209 := n0_; have HO212 := n1_; have HO217 := n2_; have BK205 := n3_; have BK214 := n4_; have HB := n5_; have BK218 := n6_; have GW218 := n7_; have GE218 := n8_; have NB205_218 := n9_; have NB218_205 := n10_; have NB214_218 := n11_; have NB218_214 := n12_; clear n0_ n1_ n2_ n3_ n4_ n5_ n6_ n7_ n8_ n9_ n10_ n11_ n12_; clear hb hbox hg; obtain ⟨Ao27, co27, eo27⟩ := Kd.R_slice HO217.out; subst eo27; have hnb28 := NB218_205.out; have hnc28 := NB205_218.out; have hnb29 := NB218_214.out; have hnc29 := NB214_218.out; have hcz30_0 : w26.cell? ⟨gb218, 0, none⟩ = some (.slice none 0 0) := (blk_cell BK218.out 0).trans rfl; have hfz30_0 := blk_frozen BK218.out 0) | ((with_reducible refine gate_callee (f := 29) rfl ?_); refine goesL_ (some 33) rfl rfl Try.func29 (by kernel_rfl) rfl #[.agg #[.slice Ao27 t215.length co27], .int .i64 a1] rfl (by (try simp only [List.map_toArray, List.map_cons, List.map_nil]); first | done | rfl | (simp only [List.length_drop, List.length_take]; rfl)) ?_; (with_reducible refine (impl_DropClue.calls k _ _ t215 a1 t219 t222 _ ?side1 ?side2 A11.out).mono ?_); (case side1 => refine (Kd.R_reads' (e := 39) (base := w.heap.size) (ok := fun k_ => ((True ∧ some k_ ≠ (.slice Ao18 t207.length co18 : Value).ownBlock) ∧ some k_ ≠ (.slice Ao21 t210.length co21 : Value).ownBlock)) (n := t215.length) (c := co27) ?_).2.2; exact (rk (Kd.R_mono (Kd.R_far (p := ⟨gb218, 0, none⟩) (Kd.R_types HO217.out BK218.out (by decide)) (fun _ hk => hk.2) (.slice Ao27 t215.length co27)) (fun _ h_ => h_.1)))); (case side2 => exact (Kd.R_reads' HO217.out).2.1); rintro e w31 ⟨v220, rfl, ho0, hb⟩; refine ⟨_, rfl, ?_⟩; have n0_ := Aside0.mk (Kd.R_elder' (rk (Kd.R_mono (Kd.R_far (p := ⟨gb218, 0, none⟩) (Kd.R_types HO209.out BK218.out (by decide)) (fun _ hk => hk.2) (.slice Ao27 t215.length co27)) (fun _ h_ => h_.1))) (Kd.R_base ho0) hb); have n1_ := Aside0.mk (Kd.R_elder' (rk (Kd.R_mono (Kd.R_far (p := ⟨gb218, 0, none⟩) (Kd.R_types HO212.out BK218.out (by decide)) (fun _ hk => hk.2) (.slice Ao27 t215.length co27)) (fun _ h_ => h_.1))) (Kd.R_base ho0) hb); have n2_ := Aside0.mk (Kd.R_elder' (rk (Kd.R_mono (Kd.R_far (p := ⟨gb218, 0, none⟩) (Kd.R_types HO217.out BK218.out (by decide)) (fun _ hk => hk.2) (.slice Ao27 t215.length co27)) (fun _ h_ => h_.1))) (Kd.R_base ho0) hb); have n3_ := Aside0.mk (Kd.R_lower (Kd.R_new' (Kd.R_new' (Kd.R_new' ho0 (Kd.R_lt (rk (Kd.R_mono (Kd.R_far (p := ⟨gb218, 0, none⟩) (Kd.R_types HO209.out BK218.out (by decide)) (fun _ hk => hk.2) (.slice Ao27 t215.length co27)) (fun _ h_ => h_.1))))) (Kd.R_lt (rk (Kd.R_mono (Kd.R_far (p := ⟨gb218, 0, none⟩) (Kd.R_types HO212.out BK218.out (by decide)) (fun _ hk => hk.2) (.slice Ao27 t215.length co27)) (fun _ h_ => h_.1))))) (Kd.R_lt (rk (Kd.R_mono (Kd.R_far (p := ⟨gb218, 0, none⟩) (Kd.R_types HO217.out BK218.out (by decide)) (fun _ hk => hk.2) (.slice Ao27 t215.length co27)) (fun _ h_ => h_.1))))) (below_size (hB HB.out))); have n4_ := Aside0.mk (blk_below (g := gb205) (o := .cells #[.slice A0_0 l0_0.length c0_0] 24 (0, 0)) (by (with_reducible repeat (first | refine blk_drewN ?_ _ | refine blk_drew ?_ | refine blk_alloc ?_ _)); refine blk_far ?_ NB205_218.out _; (with_reducible repeat (first | refine blk_drewN ?_ _ | refine blk_drew ?_ | refine blk_alloc ?_ _)); exact BK205.out) hb); have n5_ := Aside0.mk (blk_below (g := gb214) (o := .cells #[.slice Ao21 t210.length co21] 29 (0, 0)) (by (with_reducible repeat (first | refine blk_drewN ?_ _ | refine blk_drew ?_ | refine blk_alloc ?_ _)); refine blk_far ?_ NB214_218.out _; (with_reducible repeat (first | refine blk_drewN ?_ _ | refine blk_drew ?_ | refine blk_alloc ?_ _)); exact BK214.out) hb); have n6_ := Aside0.mk (blk_below (g := gb218) (o := .cells #[.slice Ao27 t215.length co27] 29 (0, 0)) (by (with_reducible repeat (first | refine blk_drewN ?_ _ | refine blk_drew ?_ | refine blk_alloc ?_ _)); refine blk_put (cs := #[.slice none 0 0]) ?_ 0 _ rfl; (with_reducible repeat (first | refine blk_drewN ?_ _ | refine blk_drew ?_ | refine blk_alloc ?_ _)); exact BK218.out) hb); have n7_ := Aside0.mk (below_step (hB HB.out) hb); clear HO209; clear HO212; clear HO217; clear BK205; clear BK214; clear BK218; clear HB; have HO209 := n0_; have HO212 := n1_; have HO217 := n2_; have HO221 := n3_; have BK205 := n4_; have BK214 := n5_; have BK218 := n6_; have HB := n7_; clear n0_ n1_ n2_ n3_ n4_ n5_ n6_ n7_; (try clear hb); (try clear hb2); (try clear hk); (try clear hi); (try clear ho0)) | ((with_reducible refine gate_dst (N := 9) rfl ?_); refine box_event ?hg (N := 9) ?hd (cs := #[.slice none 0 0]) (t := 29) ?hr ?_; (case hd => rfl); (case hg => rfl); (case hr => first | (go_simp; done) | (go_simp; rfl)); intro gb223 hg w32 hbox hb; have n0_ := Aside0.mk (Kd.R_below (rk HO209.out) hb); have n1_ := Aside0.mk (Kd.R_below (rk HO212.out) hb); have n2_ := Aside0.mk (Kd.R_below (rk HO217.out) hb); have n3_ := Aside0.mk (Kd.R_below (rk HO221.out) hb); have n4_ := Aside0.mk (blk_below (g := gb205) (o := .cells #[.slice A0_0 l0_0.length c0_0] 24 (0, 0)) (bk BK205.out) hb); have n5_ := Aside0.mk (blk_below (g := gb214) (o := .cells #[.slice Ao21 t210.length co21] 29 (0, 0)) (bk BK214.out) hb); have n6_ := Aside0.mk (blk_below (g := gb218) (o := .cells #[.slice Ao27 t215.length co27] 29 (0, 0)) (bk BK218.out) hb); have n7_ := Aside0.mk (below_step (hB HB.out) hb); have n8_ := Aside0.mk (hbox); have n9_ := Aside0.mk ((by rw [hg]; exact (below_size (hB HB.out)) : w.heap.size ≤ gb223)); have n10_ := Aside0.mk ((by rw [hg]; exact (below_size (hB HB.out)) : w.heap.size ≤ gb223)); have n11_ := Aside0.mk ((by rw [hg]; exact Nat.ne_of_lt (blk_lt (g := gb205) (o := .cells #[.slice A0_0 l0_0.length c0_0] 24 (0, 0)) (bk BK205.out)) : gb205 ≠ gb223)); have n12_ := Aside0.mk ((by rw [hg]; exact Nat.ne_of_gt (blk_lt (g := gb205) (o := .cells #[.slice A0_0 l0_0.length c0_0] 24 (0, 0)) (bk BK205.out)) : gb223 ≠ gb205)); have n13_ := Aside0.mk ((by rw [hg]; exact Nat.ne_of_lt (blk_lt (g := gb214) (o := .cells #[.slice Ao21 t210.length co21] 29 (0, 0)) (bk BK214.out)) : gb214 ≠ gb223)); have n14_ := Aside0.mk ((by rw [hg]; exact Nat.ne_of_gt (blk_lt (g := gb214) (o := .cells #[.slice Ao21 t210.length co21] 29 (0, 0)) (bk BK214.out)) : gb223 ≠ gb214)); have n15_ := Aside0.mk ((by rw [hg]; exact Nat.ne_of_lt (blk_lt (g := gb218) (o := .cells #[.slice Ao27 t215.length co27] 29 (0, 0)) (bk BK218.out)) : gb218 ≠ gb223)); have n16_ := Aside0.mk ((by rw [hg]; exact Nat.ne_of_gt (blk_lt (g := gb218) (o := .cells #[.slice Ao27 t215.length co27] 29 (0, 0)) (bk BK218.out)) : gb223 ≠ gb218)); clear HO209; clear HO212; clear HO217; clear HO221; clear BK205; clear BK214; clear BK218; clear HB; have HO209 := n0_; have HO212 := n1_; have HO217 := n2_; have HO221 := n3_; have BK205 := n4_; have BK214 := n5_; have BK218 := n6_; have HB := n7_; have BK223 := n8_; have GW223 := n9_; have GE223 := n10_; have NB205_223 := n11_; have NB223_205 := n12_; have NB214_223 := n13_; have NB223_214 := n14_; have NB218_223 := n15_; have NB223_218 := n16_; clear n0_ n1_ n2_ n3_ n4_ n5_ n6_ n7_ n8_ n9_ n10_ n11_ n12_ n13_ n14_ n15_ n16_; clear hb hbox hg; obtain ⟨Ao33, co33, eo33⟩ := Kd.R_slice HO221.out; subst eo33; have hnb34 := NB223_205.out; have hnc34 := NB205_223.out; have hnb35 := NB223_214.out; have hnc35 := NB214_223.out; have hnb36 := NB223_218.out; have hnc36 := NB218_223.out; have hcz37_0 : w32.cell? ⟨gb223, 0, none⟩ = some (.slice none 0 0) := (blk_cell BK223.out 0).trans rfl; have hfz37_0 := blk_frozen BK223.out 0))
  (try simp only [Act.put, List.setIfInBounds_toArray, List.set_cons_zero, List.set_cons_succ])
  go_cut [44] (fun v44 wc => ∃ (kq : Nat) (x44_11 : Bool), v44 = .bool x44_11 ∧ Aside0 (laws_FnExactDropClue.j0 kq a1 t213 t222 x44_11 l0_0 t210 t215 t219 = some r) ∧ Aside0 (kq ≤ k) ∧ Aside0 (Kd.R k39 39 wc w.heap.size (fun k_ => some k_ ≠ ((.slice Ao27 t215.length co27) : Value).ownBlock ∧ some k_ ≠ ((.slice Ao33 t219.length co33) : Value).ownBlock) (.slice Ao21 t210.length co21) t210) ∧ Aside0 (Kd.R k39 39 wc w.heap.size (fun k_ => some k_ ≠ ((.slice Ao21 t210.length co21) : Value).ownBlock ∧ some k_ ≠ ((.slice Ao33 t219.length co33) : Value).ownBlock) (.slice Ao27 t215.length co27) t215) ∧ Aside0 (Kd.R k39 39 wc w.heap.size (fun k_ => some k_ ≠ ((.slice Ao21 t210.length co21) : Value).ownBlock ∧ some k_ ≠ ((.slice Ao27 t215.length co27) : Value).ownBlock) (.slice Ao33 t219.length co33) t219) ∧ Aside0 (wc.heap[gb205]? = some (.cells #[(.slice A0_0 l0_0.length c0_0)] 24 (0, 0))) ∧ Aside0 (wc.heap[gb214]? = some (.cells #[(.slice Ao21 t210.length co21)] 29 (0, 0))) ∧ Aside0 (wc.heap[gb218]? = some (.cells #[(.slice Ao27 t215.length co27)] 29 (0, 0))) ∧ Aside0 (wc.heap[gb223]? = some (.cells #[(.slice Ao33 t219.length co33)] 29 (0, 0))) ∧ Aside0 (Below w.heap.size w wc))
  case first =>
   have H := HC12.out
   clear HC12
   replace H := Option.bind_eq_some_iff.mp H
   obtain ⟨t224, A380, H⟩ := H
   replace H : (if t224 = true then (laws_FnExactDropClue.j0 k a1 t213 t222 (t222 != t213) l0_0 t210 t215 t219) else (laws_FnExactDropClue.j0 k a1 t213 t222 true l0_0 t210 t215 t219)) = some r := H
   have A38 := Aside0.mk A380
   clear A380
   by_cases c39 : t224 = true
   ·subst c39
    have H1 : (laws_FnExactDropClue.j0 k a1 t213 t222 (t222 != t213) l0_0 t210 t215 t219) = some r := by rw [if_pos rfl] at H; exact H
    clear H
    have H := H1
    clear H1
    have H' := Aside0.mk H
    clear H
    have hnb40 := NB223_205.out
    have hnc40 := NB205_223.out
    have hnb41 := NB223_214.out
    have hnc41 := NB214_223.out
    have hnb42 := NB223_218.out
    have hnc42 := NB218_223.out
    have hcz43_0 : w32.cell? ⟨gb223, 0, none⟩ = some (.slice none 0 0) := (blk_cell BK223.out 0).trans rfl
    have hfz43_0 := blk_frozen BK223.out 0
    have hnb44 := NB214_205.out
    have hnc44 := NB205_214.out
    have hnb45 := NB214_218.out
    have hnc45 := NB218_214.out
    have hcz46_0 : w32.cell? ⟨gb214, 0, none⟩ = some (.slice Ao21 t210.length co21) := (blk_cell BK214.out 0).trans rfl
    have hfz46_0 := blk_frozen BK214.out 0
    go_wp2_with (first | ((with_reducible refine gate_callee (f := 19) rfl ?_); refine goesL_ (some 38) rfl rfl Try.func19 (by kernel_rfl) rfl #[.agg #[.slice Ao33 t219.length co33], .agg #[.slice Ao21 t210.length co21]] rfl (by (try simp only [List.map_toArray, List.map_cons, List.map_nil]); first | done | rfl | (simp only [List.length_drop, List.length_take]; rfl)) ?_; (with_reducible refine (laws_eqPuzzle.calls k _ _ t219 _ _ t210 true _ ?side1 ?side2 ?side3 ?side4 A38.out).mono ?_); (case side1 => refine (Kd.R_reads' (e := 39) (base := w.heap.size) (ok := fun k_ => (((True ∧ some k_ ≠ (.slice Ao18 t207.length co18 : Value).ownBlock) ∧ some k_ ≠ (.slice Ao21 t210.length co21 : Value).ownBlock) ∧ some k_ ≠ (.slice Ao27 t215.length co27 : Value).ownBlock)) (n := t219.length) (c := co33) ?_).2.2; exact (rk (Kd.R_mono (Kd.R_far (p := ⟨gb223, 0, none⟩) (Kd.R_types HO221.out BK223.out (by decide)) (fun _ hk => hk.2) (.slice Ao33 t219.length co33)) (fun _ h_ => h_.1)))); (case side2 => exact (Kd.R_reads' HO221.out).2.1); (case side3 => refine (Kd.R_reads' (e := 39) (base := w.heap.size) (ok := fun k_ => (((True ∧ some k_ ≠ (.slice Ao18 t207.length co18 : Value).ownBlock) ∧ some k_ ≠ (.slice Ao27 t215.length co27 : Value).ownBlock) ∧ some k_ ≠ (.slice Ao33 t219.length co33 : Value).ownBlock)) (n := t210.length) (c := co21) ?_).2.2; exact (rk (Kd.R_mono (Kd.R_far (p := ⟨gb223, 0, none⟩) (Kd.R_types HO212.out BK223.out (by decide)) (fun _ hk => hk.2) (.slice Ao33 t219.length co33)) (fun _ h_ => h_.1)))); (case side4 => exact (Kd.R_reads' HO212.out).2.1); rintro e w47 ⟨rfl, hb⟩; refine ⟨_, rfl, ?_⟩; have n0_ := Aside0.mk (Kd.R_below (rk (Kd.R_mono (Kd.R_far (p := ⟨gb223, 0, none⟩) (Kd.R_types HO209.out BK223.out (by decide)) (fun _ hk => hk.2) (.slice Ao33 t219.length co33)) (fun _ h_ => h_.1))) hb); have n1_ := Aside0.mk (Kd.R_below (rk (Kd.R_mono (Kd.R_far (p := ⟨gb223, 0, none⟩) (Kd.R_types HO212.out BK223.out (by decide)) (fun _ hk => hk.2) (.slice Ao33 t219.length co33)) (fun _ h_ => h_.1))) hb); have n2_ := Aside0.mk (Kd.R_below (rk (Kd.R_mono (Kd.R_far (p := ⟨gb223, 0, none⟩) (Kd.R_types HO217.out BK223.out (by decide)) (fun _ hk => hk.2) (.slice Ao33 t219.length co33)) (fun _ h_ => h_.1))) hb); have n3_ := Aside0.mk (Kd.R_below (rk (Kd.R_mono (Kd.R_far (p := ⟨gb223, 0, none⟩) (Kd.R_types HO221.out BK223.out (by decide)) (fun _ hk => hk.2) (.slice Ao33 t219.length co33)) (fun _ h_ => h_.1))) hb); have n4_ := Aside0.mk (blk_below (g := gb205) (o := .cells #[.slice A0_0 l0_0.length c0_0] 24 (0, 0)) (by (with_reducible repeat (first | refine blk_drewN ?_ _ | refine blk_drew ?_ | refine blk_alloc ?_ _)); refine blk_far ?_ NB205_223.out _; (with_reducible repeat (first | refine blk_drewN ?_ _ | refine blk_drew ?_ | refine blk_alloc ?_ _)); exact BK205.out) hb); have n5_ := Aside0.mk (blk_below (g := gb214) (o := .cells #[.slice Ao21 t210.length co21] 29 (0, 0)) (by (with_reducible repeat (first | refine blk_drewN ?_ _ | refine blk_drew ?_ | refine blk_alloc ?_ _)); refine blk_far ?_ NB214_223.out _; (with_reducible repeat (first | refine blk_drewN ?_ _ | refine blk_drew ?_ | refine blk_alloc ?_ _)); exact BK214.out) hb); have n6_ := Aside0.mk (blk_below (g := gb218) (o := .cells #[.slice Ao27 t215.length co27] 29 (0, 0)) (by (with_reducible repeat (first | refine blk_drewN ?_ _ | refine blk_drew ?_ | refine blk_alloc ?_ _)); refine blk_far ?_ NB218_223.out _; (with_reducible repeat (first | refine blk_drewN ?_ _ | refine blk_drew ?_ | refine blk_alloc ?_ _)); exact BK218.out) hb); have n7_ := Aside0.mk (blk_below (g := gb223) (o := .cells #[.slice Ao33 t219.length co33] 29 (0, 0)) (by (with_reducible repeat (first | refine blk_drewN ?_ _ | refine blk_drew ?_ | refine blk_alloc ?_ _)); refine blk_put (cs := #[.slice none 0 0]) ?_ 0 _ rfl; (with_reducible repeat (first | refine blk_drewN ?_ _ | refine blk_drew ?_ | refine blk_alloc ?_ _)); exact BK223.out) hb); have n8_ := Aside0.mk (below_step (hB HB.out) hb); clear HO209; clear HO212; clear HO217; clear HO221; clear BK205; clear BK214; clear BK218; clear BK223; clear HB; have HO209 := n0_; have HO212 := n1_; have HO217 := n2_; have HO221 := n3_; have BK205 := n4_; have BK214 := n5_; have BK218 := n6_; have BK223 := n7_; have HB := n8_; clear n0_ n1_ n2_ n3_ n4_ n5_ n6_ n7_ n8_; (try clear hb); (try clear hb2); (try clear hk); (try clear hi)))
    go_meet
    case rel => exact ⟨_, ((t222 != t213)), (by first | rfl | (simp; done) | (simp [*]; done)), H', ⟨by first | omega | exact Nat.le_refl _⟩, ⟨rk (Kd.R_mono HO212.out (fun _ hk => ⟨hk.1.2, hk.2⟩))⟩, ⟨rk (Kd.R_mono HO217.out (fun _ hk => ⟨hk.1.2, hk.2⟩))⟩, ⟨rk (Kd.R_mono HO221.out (fun _ hk => ⟨hk.1.2, hk.2⟩))⟩, ⟨bk BK205.out⟩, ⟨bk BK214.out⟩, ⟨bk BK218.out⟩, ⟨bk BK223.out⟩, ⟨hB HB.out⟩⟩
   ·replace c39 := Bool.eq_false_iff.mpr c39
    subst c39
    have H1 : (laws_FnExactDropClue.j0 k a1 t213 t222 true l0_0 t210 t215 t219) = some r := by rw [if_neg (show ¬ (false = true) by decide)] at H; exact H
    clear H
    have H := H1
    clear H1
    have H' := Aside0.mk H
    clear H
    have hnb48 := NB223_205.out
    have hnc48 := NB205_223.out
    have hnb49 := NB223_214.out
    have hnc49 := NB214_223.out
    have hnb50 := NB223_218.out
    have hnc50 := NB218_223.out
    have hcz51_0 : w32.cell? ⟨gb223, 0, none⟩ = some (.slice none 0 0) := (blk_cell BK223.out 0).trans rfl
    have hfz51_0 := blk_frozen BK223.out 0
    have hnb52 := NB214_205.out
    have hnc52 := NB205_214.out
    have hnb53 := NB214_218.out
    have hnc53 := NB218_214.out
    have hcz54_0 : w32.cell? ⟨gb214, 0, none⟩ = some (.slice Ao21 t210.length co21) := (blk_cell BK214.out 0).trans rfl
    have hfz54_0 := blk_frozen BK214.out 0
    go_wp2_with (first | ((with_reducible refine gate_callee (f := 19) rfl ?_); refine goesL_ (some 38) rfl rfl Try.func19 (by kernel_rfl) rfl #[.agg #[.slice Ao33 t219.length co33], .agg #[.slice Ao21 t210.length co21]] rfl (by (try simp only [List.map_toArray, List.map_cons, List.map_nil]); first | done | rfl | (simp only [List.length_drop, List.length_take]; rfl)) ?_; (with_reducible refine (laws_eqPuzzle.calls k _ _ t219 _ _ t210 false _ ?side1 ?side2 ?side3 ?side4 A38.out).mono ?_); (case side1 => refine (Kd.R_reads' (e := 39) (base := w.heap.size) (ok := fun k_ => (((True ∧ some k_ ≠ (.slice Ao18 t207.length co18 : Value).ownBlock) ∧ some k_ ≠ (.slice Ao21 t210.length co21 : Value).ownBlock) ∧ some k_ ≠ (.slice Ao27 t215.length co27 : Value).ownBlock)) (n := t219.length) (c := co33) ?_).2.2; exact (rk (Kd.R_mono (Kd.R_far (p := ⟨gb223, 0, none⟩) (Kd.R_types HO221.out BK223.out (by decide)) (fun _ hk => hk.2) (.slice Ao33 t219.length co33)) (fun _ h_ => h_.1)))); (case side2 => exact (Kd.R_reads' HO221.out).2.1); (case side3 => refine (Kd.R_reads' (e := 39) (base := w.heap.size) (ok := fun k_ => (((True ∧ some k_ ≠ (.slice Ao18 t207.length co18 : Value).ownBlock) ∧ some k_ ≠ (.slice Ao27 t215.length co27 : Value).ownBlock) ∧ some k_ ≠ (.slice Ao33 t219.length co33 : Value).ownBlock)) (n := t210.length) (c := co21) ?_).2.2; exact (rk (Kd.R_mono (Kd.R_far (p := ⟨gb223, 0, none⟩) (Kd.R_types HO212.out BK223.out (by decide)) (fun _ hk => hk.2) (.slice Ao33 t219.length co33)) (fun _ h_ => h_.1)))); (case side4 => exact (Kd.R_reads' HO212.out).2.1); rintro e w55 ⟨rfl, hb⟩; refine ⟨_, rfl, ?_⟩; have n0_ := Aside0.mk (Kd.R_below (rk (Kd.R_mono (Kd.R_far (p := ⟨gb223, 0, none⟩) (Kd.R_types HO209.out BK223.out (by decide)) (fun _ hk => hk.2) (.slice Ao33 t219.length co33)) (fun _ h_ => h_.1))) hb); have n1_ := Aside0.mk (Kd.R_below (rk (Kd.R_mono (Kd.R_far (p := ⟨gb223, 0, none⟩) (Kd.R_types HO212.out BK223.out (by decide)) (fun _ hk => hk.2) (.slice Ao33 t219.length co33)) (fun _ h_ => h_.1))) hb); have n2_ := Aside0.mk (Kd.R_below (rk (Kd.R_mono (Kd.R_far (p := ⟨gb223, 0, none⟩) (Kd.R_types HO217.out BK223.out (by decide)) (fun _ hk => hk.2) (.slice Ao33 t219.length co33)) (fun _ h_ => h_.1))) hb); have n3_ := Aside0.mk (Kd.R_below (rk (Kd.R_mono (Kd.R_far (p := ⟨gb223, 0, none⟩) (Kd.R_types HO221.out BK223.out (by decide)) (fun _ hk => hk.2) (.slice Ao33 t219.length co33)) (fun _ h_ => h_.1))) hb); have n4_ := Aside0.mk (blk_below (g := gb205) (o := .cells #[.slice A0_0 l0_0.length c0_0] 24 (0, 0)) (by (with_reducible repeat (first | refine blk_drewN ?_ _ | refine blk_drew ?_ | refine blk_alloc ?_ _)); refine blk_far ?_ NB205_223.out _; (with_reducible repeat (first | refine blk_drewN ?_ _ | refine blk_drew ?_ | refine blk_alloc ?_ _)); exact BK205.out) hb); have n5_ := Aside0.mk (blk_below (g := gb214) (o := .cells #[.slice Ao21 t210.length co21] 29 (0, 0)) (by (with_reducible repeat (first | refine blk_drewN ?_ _ | refine blk_drew ?_ | refine blk_alloc ?_ _)); refine blk_far ?_ NB214_223.out _; (with_reducible repeat (first | refine blk_drewN ?_ _ | refine blk_drew ?_ | refine blk_alloc ?_ _)); exact BK214.out) hb); have n6_ := Aside0.mk (blk_below (g := gb218) (o := .cells #[.slice Ao27 t215.length co27] 29 (0, 0)) (by (with_reducible repeat (first | refine blk_drewN ?_ _ | refine blk_drew ?_ | refine blk_alloc ?_ _)); refine blk_far ?_ NB218_223.out _; (with_reducible repeat (first | refine blk_drewN ?_ _ | refine blk_drew ?_ | refine blk_alloc ?_ _)); exact BK218.out) hb); have n7_ := Aside0.mk (blk_below (g := gb223) (o := .cells #[.slice Ao33 t219.length co33] 29 (0, 0)) (by (with_reducible repeat (first | refine blk_drewN ?_ _ | refine blk_drew ?_ | refine blk_alloc ?_ _)); refine blk_put (cs := #[.slice none 0 0]) ?_ 0 _ rfl; (with_reducible repeat (first | refine blk_drewN ?_ _ | refine blk_drew ?_ | refine blk_alloc ?_ _)); exact BK223.out) hb); have n8_ := Aside0.mk (below_step (hB HB.out) hb); clear HO209; clear HO212; clear HO217; clear HO221; clear BK205; clear BK214; clear BK218; clear BK223; clear HB; have HO209 := n0_; have HO212 := n1_; have HO217 := n2_; have HO221 := n3_; have BK205 := n4_; have BK214 := n5_; have BK218 := n6_; have BK223 := n7_; have HB := n8_; clear n0_ n1_ n2_ n3_ n4_ n5_ n6_ n7_ n8_; (try clear hb); (try clear hb2); (try clear hk); (try clear hi)))
    go_meet
    case rel => exact ⟨_, (true), (by first | rfl | (simp; done) | (simp [*]; done)), H', ⟨by first | omega | exact Nat.le_refl _⟩, ⟨rk (Kd.R_mono HO212.out (fun _ hk => ⟨hk.1.2, hk.2⟩))⟩, ⟨rk (Kd.R_mono HO217.out (fun _ hk => ⟨hk.1.2, hk.2⟩))⟩, ⟨rk (Kd.R_mono HO221.out (fun _ hk => ⟨hk.1.2, hk.2⟩))⟩, ⟨bk BK205.out⟩, ⟨bk BK214.out⟩, ⟨bk BK218.out⟩, ⟨bk BK223.out⟩, ⟨hB HB.out⟩⟩
  case rest =>
   clear HC12
   try clear c1
   try clear c2
   try clear p2
   try clear c3
   try clear c4
   try clear c4b0
   try clear c5
   try clear c6
   try clear c15
   try clear c17
   try clear c19
   try clear c22
   try clear c28
   try clear c29
   try clear c34
   try clear c35
   try clear c36
   try clear c39
   try clear c40
   try clear c41
   try clear c42
   try clear c44
   try clear c45
   try clear c48
   try clear c49
   try clear c50
   try clear c52
   try clear c53
   try clear hcz14_0
   try clear hcz16_0
   try clear hcz23_0
   try clear hcz24_0
   try clear hcz30_0
   try clear hcz37_0
   try clear hcz43_0
   try clear hcz46_0
   try clear hcz51_0
   try clear hcz54_0
   try clear hcz6_0
   try clear hfz14_0
   try clear hfz16_0
   try clear hfz23_0
   try clear hfz24_0
   try clear hfz30_0
   try clear hfz37_0
   try clear hfz43_0
   try clear hfz46_0
   try clear hfz51_0
   try clear hfz54_0
   try clear hfz6_0
   obtain ⟨kq, x44_11, rfl, HA, HJ11, HO_215000, HO_219000, HO_224000, BK205, BK214, BK218, BK223, HB⟩ := hcut
   cases kq with
   | zero => exact absurd HA.out (by simp [laws_FnExactDropClue.j0])
   | succ kj11 =>
    have H := HA.out
    clear HA
    simp only [laws_FnExactDropClue.j0] at H
    by_cases c56 : x44_11 = true
    ·subst c56
     have H1 : (some false) = some r := by rw [if_pos rfl] at H; exact H
     clear H
     have H := H1
     clear H1
     obtain rfl := Option.some.inj H
     go_wp2
     go_ret
     exact ⟨by first | rfl | (simp [errW_none, errW_some] <;> rfl) | (simp [*, errW_none, errW_some] <;> rfl), hB HB.out⟩
    ·replace c56 := Bool.eq_false_iff.mpr c56
     subst c56
     have H1 : ((laws_toPuzzle.f kj11 l0_0).bind fun t225 => ((laws_eqPuzzle.f kj11 t215 t225).bind fun t228 => (if t228 = true then ((laws_markPuzzle.f kj11 t215 1).bind fun bt229 => (if bt229.1 < 0 then (laws_FnExactDropClue.j1 kj11 a1 t213 true l0_0 t210 t219) else ((laws_eqPuzzle.f kj11 t219 t210).bind fun t231 => (if t231 = true then (laws_FnExactDropClue.j1 kj11 a1 t213 (t222 != t213) l0_0 t210 t219) else (laws_FnExactDropClue.j1 kj11 a1 t213 true l0_0 t210 t219))))) else (some false)))) = some r := by rw [if_neg (show ¬ (false = true) by decide)] at H; exact H
     clear H
     have H := H1
     clear H1
     replace H := Option.bind_eq_some_iff.mp H
     obtain ⟨t225, A570, H⟩ := H
     replace H : ((laws_eqPuzzle.f kj11 t215 t225).bind fun t228 => (if t228 = true then ((laws_markPuzzle.f kj11 t215 1).bind fun bt229 => (if bt229.1 < 0 then (laws_FnExactDropClue.j1 kj11 a1 t213 true l0_0 t210 t219) else ((laws_eqPuzzle.f kj11 t219 t210).bind fun t231 => (if t231 = true then (laws_FnExactDropClue.j1 kj11 a1 t213 (t222 != t213) l0_0 t210 t219) else (laws_FnExactDropClue.j1 kj11 a1 t213 true l0_0 t210 t219))))) else (some false))) = some r := H
     have A57 := Aside0.mk A570
     clear A570
     replace H := Option.bind_eq_some_iff.mp H
     obtain ⟨t228, A580, H⟩ := H
     replace H : (if t228 = true then ((laws_markPuzzle.f kj11 t215 1).bind fun bt229 => (if bt229.1 < 0 then (laws_FnExactDropClue.j1 kj11 a1 t213 true l0_0 t210 t219) else ((laws_eqPuzzle.f kj11 t219 t210).bind fun t231 => (if t231 = true then (laws_FnExactDropClue.j1 kj11 a1 t213 (t222 != t213) l0_0 t210 t219) else (laws_FnExactDropClue.j1 kj11 a1 t213 true l0_0 t210 t219))))) else (some false)) = some r := H
     have A58 := Aside0.mk A580
     clear A580
     by_cases c59 : t228 = true
     ·subst c59
      have H1 : ((laws_markPuzzle.f kj11 t215 1).bind fun bt229 => (if bt229.1 < 0 then (laws_FnExactDropClue.j1 kj11 a1 t213 true l0_0 t210 t219) else ((laws_eqPuzzle.f kj11 t219 t210).bind fun t231 => (if t231 = true then (laws_FnExactDropClue.j1 kj11 a1 t213 (t222 != t213) l0_0 t210 t219) else (laws_FnExactDropClue.j1 kj11 a1 t213 true l0_0 t210 t219))))) = some r := by rw [if_pos rfl] at H; exact H
      clear H
      have H := H1
      clear H1
      replace H := Option.bind_eq_some_iff.mp H
      obtain ⟨⟨t229, t230⟩, A600, H⟩ := H
      replace H : (if t229 < 0 then (laws_FnExactDropClue.j1 kj11 a1 t213 true l0_0 t210 t219) else ((laws_eqPuzzle.f kj11 t219 t210).bind fun t231 => (if t231 = true then (laws_FnExactDropClue.j1 kj11 a1 t213 (t222 != t213) l0_0 t210 t219) else (laws_FnExactDropClue.j1 kj11 a1 t213 true l0_0 t210 t219)))) = some r := H
      have A60 := Aside0.mk A600
      clear A600
      have HC61 := Aside0.mk H
      clear H
      try go_wp2
      have n0_ := Aside0.mk (Kd.R_drew HO_215000.out)
      have n1_ := Aside0.mk (Kd.R_drew HO_219000.out)
      have n2_ := Aside0.mk (Kd.R_drew HO_224000.out)
      have n3_ := Aside0.mk (blk_drew BK205.out)
      have n4_ := Aside0.mk (blk_drew BK214.out)
      have n5_ := Aside0.mk (blk_drew BK218.out)
      have n6_ := Aside0.mk (blk_drew BK223.out)
      have n7_ := Aside0.mk (below_drew1 HB.out)
      clear HO_215000
      clear HO_219000
      clear HO_224000
      clear BK205
      clear BK214
      clear BK218
      clear BK223
      clear HB
      have HO_215000 := n0_
      have HO_219000 := n1_
      have HO_224000 := n2_
      have BK205 := n3_
      have BK214 := n4_
      have BK218 := n5_
      have BK223 := n6_
      have HB := n7_
      clear n0_ n1_ n2_ n3_ n4_ n5_ n6_ n7_
      refine start_ (n := 5) (S := fun w' => w'.cell? ⟨gb218, 0, none⟩ = some (.slice Ao27 t215.length co27) ∧ w'.cell? ⟨gb205, 0, none⟩ = some (.slice A0_0 l0_0.length c0_0)) (ds := []) #[false, false, false, false, false] (by kernel_rfl) rfl rfl ⟨(blk_cell BK218.out 0).trans rfl, (blk_cell BK205.out 0).trans rfl⟩ (fun hHeld => ?_)
      generalize wc.drew = w62 at HO_215000 HO_219000 HO_224000 BK205 BK214 BK218 BK223 HB hHeld ⊢
      refine take_ (i := 0) (N := some 45) (v := ?_) (a' := ?_) #[true, false, false, false, false] rfl rfl (by kernel_rfl) (fun _ _ _ h => h) (Or.inl ⟨by rfl, ?_⟩) hHeld ?_ ?_
      rotate_left
      ·rintro w' ⟨s0, s1⟩
       go_simp
       with_reducible rfl
      rotate_left
      ·simp only [Act.put, List.setIfInBounds_toArray, List.set_cons_zero, List.set_cons_succ, i64_w, i32_w]
       rfl
      refine take_ (i := 1) (N := some 46) (v := ?_) (a' := ?_) #[true, true, false, false, false] rfl rfl (by kernel_rfl) (fun _ _ _ h => h) (Or.inl ⟨by rfl, ?_⟩) hHeld ?_ ?_
      rotate_left
      ·rintro w' ⟨s0, s1⟩
       go_simp
       with_reducible rfl
      rotate_left
      ·simp only [Act.put, List.setIfInBounds_toArray, List.set_cons_zero, List.set_cons_succ, i64_w, i32_w]
       rfl
      refine one_ (i := 2) (N := some 47) #[true, true, true, false, false] rfl rfl (by kernel_rfl) (by decide) (fun K hK => ?_)
      refine goes_ Try.func17 (by kernel_rfl) rfl #[.agg #[.slice A0_0 l0_0.length c0_0]] (by rfl) rfl rfl (by (try simp only [List.map_toArray, List.map_cons, List.map_nil]); first | done | rfl | (simp only [List.length_drop, List.length_take]; rfl)) ?_
      with_reducible refine (laws_toPuzzle.calls kj11 _ _ l0_0 t225 _ ?side1 ?side2 A57.out).mono ?_
      (case side1 => repeat (first | exact (Kd.C_below HR0_0.out HB.out) | (with_reducible refine Kd.C_alloc ?_ _) | (with_reducible refine Kd.C_drewN ?_ _) | (with_reducible refine Kd.C_drew ?_)))
      (case side2 => exact HC0_0.out)
      rintro e w63 ⟨v226, rfl, ho0, hb⟩
      refine ⟨_, rfl, ?_⟩
      have n0_ := Aside0.mk (Kd.R_elder' (rk HO_215000.out) (Kd.R_base ho0) hb)
      have n1_ := Aside0.mk (Kd.R_elder' (rk HO_219000.out) (Kd.R_base ho0) hb)
      have n2_ := Aside0.mk (Kd.R_elder' (rk HO_224000.out) (Kd.R_base ho0) hb)
      have n3_ := Aside0.mk (Kd.R_lower (Kd.R_new' (Kd.R_new' (Kd.R_new' ho0 (Kd.R_lt (rk HO_215000.out))) (Kd.R_lt (rk HO_219000.out))) (Kd.R_lt (rk HO_224000.out))) (below_size (hB HB.out)))
      have n4_ := Aside0.mk (blk_below (g := gb205) (o := .cells #[.slice A0_0 l0_0.length c0_0] 24 (0, 0)) (bk BK205.out) hb)
      have n5_ := Aside0.mk (blk_below (g := gb214) (o := .cells #[.slice Ao21 t210.length co21] 29 (0, 0)) (bk BK214.out) hb)
      have n6_ := Aside0.mk (blk_below (g := gb218) (o := .cells #[.slice Ao27 t215.length co27] 29 (0, 0)) (bk BK218.out) hb)
      have n7_ := Aside0.mk (blk_below (g := gb223) (o := .cells #[.slice Ao33 t219.length co33] 29 (0, 0)) (bk BK223.out) hb)
      have n8_ := Aside0.mk (below_step (hB HB.out) hb)
      clear HO_215000
      clear HO_219000
      clear HO_224000
      clear BK205
      clear BK214
      clear BK218
      clear BK223
      clear HB
      have HO_215000 := n0_
      have HO_219000 := n1_
      have HO_224000 := n2_
      have HO227 := n3_
      have BK205 := n4_
      have BK214 := n5_
      have BK218 := n6_
      have BK223 := n7_
      have HB := n8_
      clear n0_ n1_ n2_ n3_ n4_ n5_ n6_ n7_ n8_
      (try clear hb)
      (try clear hb2)
      (try clear hk)
      (try clear hi)
      (try clear ho0)
      obtain ⟨Ao64, co64, eo64⟩ := Kd.R_slice HO227.out
      (first | subst eo64 | (injection eo64 with f1_ f2_ f3_; have f4_ := f1_.symm; have f5_ := f3_.symm; clear f1_ f2_ f3_; subst f4_; subst f5_))
      refine hK.out _ _ ⟨(blk_cell BK218.out 0).trans rfl, (blk_cell BK205.out 0).trans rfl⟩ (fun hHeld => ?_)
      clear hK K
      refine norm_ (a' := ?_) ?_ ?_
      rotate_left
      ·show Act.put _ (some 47) _ = _
       simp only [Act.put, List.setIfInBounds_toArray, List.set_cons_zero, List.set_cons_succ, i64_w, i32_w]
       rfl
      refine one_ (i := 3) (N := some 48) #[true, true, true, true, false] rfl rfl (by kernel_rfl) (by decide) (fun K hK => ?_)
      refine goes_ Try.func19 (by kernel_rfl) rfl #[.agg #[.slice Ao27 t215.length co27], .agg #[.slice Ao64 t225.length co64]] (by rfl) rfl rfl (by (try simp only [List.map_toArray, List.map_cons, List.map_nil]); first | done | rfl | (simp only [List.length_drop, List.length_take]; rfl)) ?_
      with_reducible refine (laws_eqPuzzle.calls kj11 _ _ t215 _ _ t225 true _ ?side1 ?side2 ?side3 ?side4 A58.out).mono ?_
      (case side1 => repeat (first | exact (Kd.R_reads' HO_219000.out).2.2 | (with_reducible refine Kd.C_alloc ?_ _) | (with_reducible refine Kd.C_drewN ?_ _) | (with_reducible refine Kd.C_drew ?_)))
      (case side2 => exact (Kd.R_reads' HO_219000.out).2.1)
      (case side3 => repeat (first | exact (Kd.R_reads' HO227.out).2.2 | (with_reducible refine Kd.C_alloc ?_ _) | (with_reducible refine Kd.C_drewN ?_ _) | (with_reducible refine Kd.C_drew ?_)))
      (case side4 => exact (Kd.R_reads' HO227.out).2.1)
      rintro e w65 ⟨rfl, hb⟩
      refine ⟨_, rfl, ?_⟩
      have n0_ := Aside0.mk (Kd.R_below (rk HO_215000.out) hb)
      have n1_ := Aside0.mk (Kd.R_below (rk HO_219000.out) hb)
      have n2_ := Aside0.mk (Kd.R_below (rk HO_224000.out) hb)
      have n3_ := Aside0.mk (Kd.R_below (rk HO227.out) hb)
      have n4_ := Aside0.mk (blk_below (g := gb205) (o := .cells #[.slice A0_0 l0_0.length c0_0] 24 (0, 0)) (bk BK205.out) hb)
      have n5_ := Aside0.mk (blk_below (g := gb214) (o := .cells #[.slice Ao21 t210.length co21] 29 (0, 0)) (bk BK214.out) hb)
      have n6_ := Aside0.mk (blk_below (g := gb218) (o := .cells #[.slice Ao27 t215.length co27] 29 (0, 0)) (bk BK218.out) hb)
      have n7_ := Aside0.mk (blk_below (g := gb223) (o := .cells #[.slice Ao33 t219.length co33] 29 (0, 0)) (bk BK223.out) hb)
      have n8_ := Aside0.mk (below_step (hB HB.out) hb)
      clear HO_215000
      clear HO_219000
      clear HO_224000
      clear HO227
      clear BK205
      clear BK214
      clear BK218
      clear BK223
      clear HB
      have HO_215000 := n0_
      have HO_219000 := n1_
      have HO_224000 := n2_
      have HO227 := n3_
      have BK205 := n4_
      have BK214 := n5_
      have BK218 := n6_
      have BK223 := n7_
      have HB := n8_
      clear n0_ n1_ n2_ n3_ n4_ n5_ n6_ n7_ n8_
      (try clear hb)
      (try clear hb2)
      (try clear hk)
      (try clear hi)
      refine hK.out _ _ ⟨(blk_cell BK218.out 0).trans rfl, (blk_cell BK205.out 0).trans rfl⟩ (fun hHeld => ?_)
      clear hK K
      refine norm_ (a' := ?_) ?_ ?_
      rotate_left
      ·show Act.put _ (some 48) _ = _
       simp only [Act.put, List.setIfInBounds_toArray, List.set_cons_zero, List.set_cons_succ, i64_w, i32_w]
       rfl
      refine pure_ (i := 4) (N := some 49) (v := ?_) (a' := ?_) #[true, true, true, true, true] rfl rfl (by kernel_rfl) (fun _ _ _ h => h) (Or.inl ⟨by rfl, ?_⟩) ?_ ?_
      rotate_left
      ·intro w'
       go_simp
       with_reducible rfl
      rotate_left
      ·simp only [Act.put, List.setIfInBounds_toArray, List.set_cons_zero, List.set_cons_succ, i64_w, i32_w]
       rfl
      refine done_ (by kernel_rfl) ?_
      have hnb66 := NB218_205.out
      have hnc66 := NB205_218.out
      have hnb67 := NB218_214.out
      have hnc67 := NB214_218.out
      have hnb68 := NB218_223.out
      have hnc68 := NB223_218.out
      have hcz69_0 : w65.cell? ⟨gb218, 0, none⟩ = some (.slice Ao27 t215.length co27) := (blk_cell BK218.out 0).trans rfl
      have hfz69_0 := blk_frozen BK218.out 0
      go_upto_region 14 with (first | ((with_reducible refine gate_callee (f := 26) rfl ?_); refine goesL_ (some 52) rfl rfl Try.func26 (by kernel_rfl) rfl #[.agg #[.slice Ao27 t215.length co27], .int .i64 1] rfl (by (try simp only [List.map_toArray, List.map_cons, List.map_nil]); first | done | rfl | (simp only [List.length_drop, List.length_take]; rfl)) ?_; (with_reducible refine (laws_markPuzzle.calls kj11 (fun k_ => some k_ = (.slice Ao27 t215.length co27 : Value).ownBlock) (.slice Ao27 t215.length co27) t215 1 t229 t230 w _ ?side1 ?side2 A60.out).mono ?_); (case side1 => repeat (first | (with_reducible first | exact HB.out | apply below_alloc | apply pw_below_drewN | apply below_drew1 | refine below_set ?_ GE205.out | refine below_set ?_ GE214.out | refine below_set ?_ GE218.out | refine below_set ?_ GE223.out) | exact HB.out)); (case side2 => exact Kd.R_tight rfl HO_219000.out); rintro e w70 ⟨rfl, hy0, hb, hkp⟩; refine ⟨_, rfl, ?_⟩; have n0_ := Aside0.mk (Kd.R_mono (ok' := fun k_ => some k_ ≠ (.slice Ao27 t215.length co27 : Value).ownBlock ∧ some k_ ≠ (.slice Ao33 t219.length co33 : Value).ownBlock ∧ some k_ ≠ (.slice Ao64 t225.length co64 : Value).ownBlock) (Kd.R_keptB (HO_215000.out) hkp (fun k_ hk_ hs_ => (hk_.1.1) hs_)) (fun k_ hk_ => ⟨hk_.1.1.1, hk_.1.1.2, hk_.1.2⟩)); have n1_ := Aside0.mk (Kd.R_reok rfl hy0 (fun k_ e_ => HO_219000.out.1 k_ e_)); have n2_ := Aside0.mk (Kd.R_mono (ok' := fun k_ => some k_ ≠ (.slice Ao21 t210.length co21 : Value).ownBlock ∧ some k_ ≠ (.slice Ao27 t215.length co27 : Value).ownBlock ∧ some k_ ≠ (.slice Ao64 t225.length co64 : Value).ownBlock) (Kd.R_keptB (HO_224000.out) hkp (fun k_ hk_ hs_ => (hk_.1.2) hs_)) (fun k_ hk_ => ⟨hk_.1.1.1, hk_.1.1.2, hk_.1.2⟩)); have n3_ := Aside0.mk (blk_kept (bk BK205.out) hkp (fun hs_ => (fun e_ => (Kd.R_ne HO_219000.out BK205.out (by decide)) e_) hs_)); have n4_ := Aside0.mk (blk_kept (bk BK214.out) hkp (fun hs_ => (fun e_ => (Kd.R_ne HO_219000.out BK214.out (by decide)) e_) hs_)); have n5_ := Aside0.mk (blk_kept (bk BK218.out) hkp (fun hs_ => (fun e_ => (Kd.R_ne HO_219000.out BK218.out (by decide)) e_) hs_)); have n6_ := Aside0.mk (blk_kept (bk BK223.out) hkp (fun hs_ => (fun e_ => (Kd.R_ne HO_219000.out BK223.out (by decide)) e_) hs_)); have n7_ := Aside0.mk (Kd.R_mono (ok' := fun k_ => some k_ ≠ (.slice Ao21 t210.length co21 : Value).ownBlock ∧ some k_ ≠ (.slice Ao27 t215.length co27 : Value).ownBlock ∧ some k_ ≠ (.slice Ao33 t219.length co33 : Value).ownBlock) (Kd.R_keptB (HO227.out) hkp (fun k_ hk_ hs_ => (hk_.1.2) hs_)) (fun k_ hk_ => ⟨hk_.1.1.1.2, hk_.1.1.2, hk_.1.2⟩)); have n8_ := Aside0.mk (hb); clear HO_215000; clear HO_219000; clear HO_224000; clear BK205; clear BK214; clear BK218; clear BK223; clear HO227; clear HB; have HO_215000 := n0_; have HO_219000 := n1_; have HO_224000 := n2_; have BK205 := n3_; have BK214 := n4_; have BK218 := n5_; have BK223 := n6_; have HO227 := n7_; have HB := n8_; clear n0_ n1_ n2_ n3_ n4_ n5_ n6_ n7_ n8_; (try clear hb); (try clear hkp); (try clear hy0)))
      (try simp only [Act.put, List.setIfInBounds_toArray, List.set_cons_zero, List.set_cons_succ])
      go_cut [65] (fun v65 wc => ∃ (kq : Nat) (x65_60 : Bool), v65 = .bool x65_60 ∧ Aside0 (laws_FnExactDropClue.j1 kq a1 t213 x65_60 l0_0 t210 t219 = some r) ∧ Aside0 (kq ≤ kj11) ∧ Aside0 (Kd.R k39 39 wc w.heap.size (fun k_ => some k_ ≠ ((.slice Ao27 t215.length co27) : Value).ownBlock ∧ some k_ ≠ ((.slice Ao33 t219.length co33) : Value).ownBlock) (.slice Ao21 t210.length co21) t210) ∧ Aside0 (Kd.R k39 39 wc w.heap.size (fun k_ => some k_ ≠ ((.slice Ao21 t210.length co21) : Value).ownBlock ∧ some k_ ≠ ((.slice Ao33 t219.length co33) : Value).ownBlock) (.slice Ao27 t215.length co27) t230) ∧ Aside0 (Kd.R k39 39 wc w.heap.size (fun k_ => some k_ ≠ ((.slice Ao21 t210.length co21) : Value).ownBlock ∧ some k_ ≠ ((.slice Ao27 t215.length co27) : Value).ownBlock) (.slice Ao33 t219.length co33) t219) ∧ Aside0 (wc.heap[gb205]? = some (.cells #[(.slice A0_0 l0_0.length c0_0)] 24 (0, 0))) ∧ Aside0 (wc.heap[gb214]? = some (.cells #[(.slice Ao21 t210.length co21)] 29 (0, 0))) ∧ Aside0 (wc.heap[gb218]? = some (.cells #[(.slice Ao27 t215.length co27)] 29 (0, 0))) ∧ Aside0 (wc.heap[gb223]? = some (.cells #[(.slice Ao33 t219.length co33)] 29 (0, 0))) ∧ Aside0 (Below w.heap.size w wc))
      case first =>
       have H := HC61.out
       clear HC61
       by_cases c71 : t229 < 0
       ·rw [if_pos c71] at H
        have c71b0 : decide (t229 < 0) = true := decide_eq_true c71
        clear c71
        (first | rw [c71b0] | (simp only [i64_w, i32_w]; rw [c71b0]) | skip)
        have H' := Aside0.mk H
        clear H
        go_wp2
        go_meet
        case rel => exact ⟨_, (true), (by first | rfl | (simp; done) | (simp [*]; done)), H', ⟨by have := HJ11.out; first | omega | exact Nat.le_refl _⟩, ⟨rk (Kd.R_mono HO_215000.out (fun _ hk => ⟨hk.1, hk.2.1⟩))⟩, ⟨rk (Kd.R_mono HO_219000.out (fun _ hk => ⟨hk.1.1, hk.1.2⟩))⟩, ⟨rk (Kd.R_mono HO_224000.out (fun _ hk => ⟨hk.1, hk.2.1⟩))⟩, ⟨bk BK205.out⟩, ⟨bk BK214.out⟩, ⟨bk BK218.out⟩, ⟨bk BK223.out⟩, ⟨hB HB.out⟩⟩
       ·rw [if_neg c71] at H
        have c71b0 : decide (t229 < 0) = false := decide_eq_false c71
        clear c71
        (first | rw [c71b0] | (simp only [i64_w, i32_w]; rw [c71b0]) | skip)
        replace H := Option.bind_eq_some_iff.mp H
        obtain ⟨t231, A720, H⟩ := H
        replace H : (if t231 = true then (laws_FnExactDropClue.j1 kj11 a1 t213 (t222 != t213) l0_0 t210 t219) else (laws_FnExactDropClue.j1 kj11 a1 t213 true l0_0 t210 t219)) = some r := H
        have A72 := Aside0.mk A720
        clear A720
        by_cases c73 : t231 = true
        ·subst c73
         have H1 : (laws_FnExactDropClue.j1 kj11 a1 t213 (t222 != t213) l0_0 t210 t219) = some r := by rw [if_pos rfl] at H; exact H
         clear H
         have H := H1
         clear H1
         have H' := Aside0.mk H
         clear H
         have hnb74 := NB223_205.out
         have hnc74 := NB205_223.out
         have hnb75 := NB223_214.out
         have hnc75 := NB214_223.out
         have hnb76 := NB223_218.out
         have hnc76 := NB218_223.out
         have hcz77_0 : w70.cell? ⟨gb223, 0, none⟩ = some (.slice Ao33 t219.length co33) := (blk_cell BK223.out 0).trans rfl
         have hfz77_0 := blk_frozen BK223.out 0
         have hnb78 := NB214_205.out
         have hnc78 := NB205_214.out
         have hnb79 := NB214_218.out
         have hnc79 := NB218_214.out
         have hcz80_0 : w70.cell? ⟨gb214, 0, none⟩ = some (.slice Ao21 t210.length co21) := (blk_cell BK214.out 0).trans rfl
         have hfz80_0 := blk_frozen BK214.out 0
         go_wp2_with (first | (go_at_call 19; (with_reducible refine (laws_eqPuzzle.calls kj11 _ _ t219 _ _ t210 true _ ?side1 ?side2 ?side3 ?side4 A72.out).mono ?_); (case side1 => repeat (first | exact (Kd.R_reads' HO_224000.out).2.2 | (with_reducible refine Kd.C_alloc ?_ _) | (with_reducible refine Kd.C_drewN ?_ _) | (with_reducible refine Kd.C_drew ?_))); (case side2 => exact (Kd.R_reads' HO_224000.out).2.1); (case side3 => repeat (first | exact (Kd.R_reads' HO_215000.out).2.2 | (with_reducible refine Kd.C_alloc ?_ _) | (with_reducible refine Kd.C_drewN ?_ _) | (with_reducible refine Kd.C_drew ?_))); (case side4 => exact (Kd.R_reads' HO_215000.out).2.1); rintro e w81 ⟨rfl, hb⟩; have n0_ := Aside0.mk (Kd.R_below (rk HO_215000.out) hb); have n1_ := Aside0.mk (Kd.R_below (rk HO_219000.out) hb); have n2_ := Aside0.mk (Kd.R_below (rk HO_224000.out) hb); have n3_ := Aside0.mk (Kd.R_below (rk HO227.out) hb); have n4_ := Aside0.mk (blk_below (g := gb205) (o := .cells #[.slice A0_0 l0_0.length c0_0] 24 (0, 0)) (bk BK205.out) hb); have n5_ := Aside0.mk (blk_below (g := gb214) (o := .cells #[.slice Ao21 t210.length co21] 29 (0, 0)) (bk BK214.out) hb); have n6_ := Aside0.mk (blk_below (g := gb218) (o := .cells #[.slice Ao27 t215.length co27] 29 (0, 0)) (bk BK218.out) hb); have n7_ := Aside0.mk (blk_below (g := gb223) (o := .cells #[.slice Ao33 t219.length co33] 29 (0, 0)) (bk BK223.out) hb); have n8_ := Aside0.mk (below_step (hB HB.out) hb); clear HO_215000; clear HO_219000; clear HO_224000; clear HO227; clear BK205; clear BK214; clear BK218; clear BK223; clear HB; have HO_215000 := n0_; have HO_219000 := n1_; have HO_224000 := n2_; have HO227 := n3_; have BK205 := n4_; have BK214 := n5_; have BK218 := n6_; have BK223 := n7_; have HB := n8_; clear n0_ n1_ n2_ n3_ n4_ n5_ n6_ n7_ n8_; (try clear hb); (try clear hb2); (try clear hk); (try clear hi)))
         go_meet
         case rel => exact ⟨_, ((t222 != t213)), (by first | rfl | (simp; done) | (simp [*]; done)), H', ⟨by have := HJ11.out; first | omega | exact Nat.le_refl _⟩, ⟨rk (Kd.R_mono HO_215000.out (fun _ hk => ⟨hk.1, hk.2.1⟩))⟩, ⟨rk (Kd.R_mono HO_219000.out (fun _ hk => ⟨hk.1.1, hk.1.2⟩))⟩, ⟨rk (Kd.R_mono HO_224000.out (fun _ hk => ⟨hk.1, hk.2.1⟩))⟩, ⟨bk BK205.out⟩, ⟨bk BK214.out⟩, ⟨bk BK218.out⟩, ⟨bk BK223.out⟩, ⟨hB HB.out⟩⟩
        ·replace c73 := Bool.eq_false_iff.mpr c73
         subst c73
         have H1 : (laws_FnExactDropClue.j1 kj11 a1 t213 true l0_0 t210 t219) = some r := by rw [if_neg (show ¬ (false = true) by decide)] at H; exact H
         clear H
         have H := H1
         clear H1
         have H' := Aside0.mk H
         clear H
         have hnb82 := NB223_205.out
         have hnc82 := NB205_223.out
         have hnb83 := NB223_214.out
         have hnc83 := NB214_223.out
         have hnb84 := NB223_218.out
         have hnc84 := NB218_223.out
         have hcz85_0 : w70.cell? ⟨gb223, 0, none⟩ = some (.slice Ao33 t219.length co33) := (blk_cell BK223.out 0).trans rfl
         have hfz85_0 := blk_frozen BK223.out 0
         have hnb86 := NB214_205.out
         have hnc86 := NB205_214.out
         have hnb87 := NB214_218.out
         have hnc87 := NB218_214.out
         have hcz88_0 : w70.cell? ⟨gb214, 0, none⟩ = some (.slice Ao21 t210.length co21) := (blk_cell BK214.out 0).trans rfl
         have hfz88_0 := blk_frozen BK214.out 0
         go_wp2_with (first | (go_at_call 19; (with_reducible refine (laws_eqPuzzle.calls kj11 _ _ t219 _ _ t210 false _ ?side1 ?side2 ?side3 ?side4 A72.out).mono ?_); (case side1 => repeat (first | exact (Kd.R_reads' HO_224000.out).2.2 | (with_reducible refine Kd.C_alloc ?_ _) | (with_reducible refine Kd.C_drewN ?_ _) | (with_reducible refine Kd.C_drew ?_))); (case side2 => exact (Kd.R_reads' HO_224000.out).2.1); (case side3 => repeat (first | exact (Kd.R_reads' HO_215000.out).2.2 | (with_reducible refine Kd.C_alloc ?_ _) | (with_reducible refine Kd.C_drewN ?_ _) | (with_reducible refine Kd.C_drew ?_))); (case side4 => exact (Kd.R_reads' HO_215000.out).2.1); rintro e w89 ⟨rfl, hb⟩; have n0_ := Aside0.mk (Kd.R_below (rk HO_215000.out) hb); have n1_ := Aside0.mk (Kd.R_below (rk HO_219000.out) hb); have n2_ := Aside0.mk (Kd.R_below (rk HO_224000.out) hb); have n3_ := Aside0.mk (Kd.R_below (rk HO227.out) hb); have n4_ := Aside0.mk (blk_below (g := gb205) (o := .cells #[.slice A0_0 l0_0.length c0_0] 24 (0, 0)) (bk BK205.out) hb); have n5_ := Aside0.mk (blk_below (g := gb214) (o := .cells #[.slice Ao21 t210.length co21] 29 (0, 0)) (bk BK214.out) hb); have n6_ := Aside0.mk (blk_below (g := gb218) (o := .cells #[.slice Ao27 t215.length co27] 29 (0, 0)) (bk BK218.out) hb); have n7_ := Aside0.mk (blk_below (g := gb223) (o := .cells #[.slice Ao33 t219.length co33] 29 (0, 0)) (bk BK223.out) hb); have n8_ := Aside0.mk (below_step (hB HB.out) hb); clear HO_215000; clear HO_219000; clear HO_224000; clear HO227; clear BK205; clear BK214; clear BK218; clear BK223; clear HB; have HO_215000 := n0_; have HO_219000 := n1_; have HO_224000 := n2_; have HO227 := n3_; have BK205 := n4_; have BK214 := n5_; have BK218 := n6_; have BK223 := n7_; have HB := n8_; clear n0_ n1_ n2_ n3_ n4_ n5_ n6_ n7_ n8_; (try clear hb); (try clear hb2); (try clear hk); (try clear hi)))
         go_meet
         case rel => exact ⟨_, (true), (by first | rfl | (simp; done) | (simp [*]; done)), H', ⟨by have := HJ11.out; first | omega | exact Nat.le_refl _⟩, ⟨rk (Kd.R_mono HO_215000.out (fun _ hk => ⟨hk.1, hk.2.1⟩))⟩, ⟨rk (Kd.R_mono HO_219000.out (fun _ hk => ⟨hk.1.1, hk.1.2⟩))⟩, ⟨rk (Kd.R_mono HO_224000.out (fun _ hk => ⟨hk.1, hk.2.1⟩))⟩, ⟨bk BK205.out⟩, ⟨bk BK214.out⟩, ⟨bk BK218.out⟩, ⟨bk BK223.out⟩, ⟨hB HB.out⟩⟩
      case rest =>
       clear HC61
       try clear c1
       try clear c2
       try clear p2
       try clear c3
       try clear c4
       try clear c4b0
       try clear c5
       try clear c6
       try clear c7
       try clear c8
       try clear c15
       try clear c17
       try clear c19
       try clear c22
       try clear c26
       try clear c28
       try clear c29
       try clear c34
       try clear c35
       try clear c36
       try clear c39
       try clear c40
       try clear c41
       try clear c42
       try clear c44
       try clear c45
       try clear c48
       try clear c49
       try clear c50
       try clear c52
       try clear c53
       try clear c56
       try clear c59
       try clear c66
       try clear c67
       try clear c68
       try clear c71
       try clear c71b0
       try clear c73
       try clear c74
       try clear c75
       try clear c76
       try clear c78
       try clear c79
       try clear c82
       try clear c83
       try clear c84
       try clear c86
       try clear c87
       try clear hcz14_0
       try clear hcz16_0
       try clear hcz23_0
       try clear hcz24_0
       try clear hcz30_0
       try clear hcz37_0
       try clear hcz43_0
       try clear hcz46_0
       try clear hcz51_0
       try clear hcz54_0
       try clear hcz69_0
       try clear hcz6_0
       try clear hcz77_0
       try clear hcz80_0
       try clear hcz85_0
       try clear hcz88_0
       try clear hfz14_0
       try clear hfz16_0
       try clear hfz23_0
       try clear hfz24_0
       try clear hfz30_0
       try clear hfz37_0
       try clear hfz43_0
       try clear hfz46_0
       try clear hfz51_0
       try clear hfz54_0
       try clear hfz69_0
       try clear hfz6_0
       try clear hfz77_0
       try clear hfz80_0
       try clear hfz85_0
       try clear hfz88_0
       try clear p2
       obtain ⟨kq, x65_60, rfl, HA, HJ60, HO_215000, HO_219000, HO_224000, BK205, BK214, BK218, BK223, HB⟩ := hcut
       have hl219000_60 := (Kd.R_reads' HO_219000.out).1
       rw [hl219000_60] at HO_219000
       (try simp only [hl219000_60])
       (try simp only [hl219000_60] at BK205)
       (try simp only [hl219000_60] at BK214)
       (try simp only [hl219000_60] at BK218)
       (try simp only [hl219000_60] at BK223)
       (try simp only [hl219000_60] at HO_215000)
       (try simp only [hl219000_60] at HO_224000)
       cases kq with
       | zero => exact absurd HA.out (by simp [laws_FnExactDropClue.j1])
       | succ kj60 =>
        have H := HA.out
        clear HA
        simp only [laws_FnExactDropClue.j1] at H
        by_cases c90 : x65_60 = true
        ·subst c90
         have H1 : (some false) = some r := by rw [if_pos rfl] at H; exact H
         clear H
         have H := H1
         clear H1
         obtain rfl := Option.some.inj H
         go_wp2
         go_ret
         exact ⟨by first | rfl | (simp [errW_none, errW_some] <;> rfl) | (simp [*, errW_none, errW_some] <;> rfl), hB HB.out⟩
        ·replace c90 := Bool.eq_false_iff.mpr c90
         subst c90
         have H1 : ((laws_markPuzzle.f kj60 t219 1).bind fun bt232 => ((laws_heldPuzzle.f kj60 bt232.2 1).bind fun t234 => (if t234 < 0 then (some false) else (if t234 = bt232.1 then ((laws_toPuzzle.f kj60 l0_0).bind fun t235 => ((impl_DropClue.f kj60 t235 a1).bind fun bt238 => ((laws_eqPuzzle.f kj60 bt238.1 t210).bind fun t243 => (if t243 = true then (laws_FnExactDropClue.j2 kj60 bt232.1 (bt238.2 != t213) bt232.2) else (laws_FnExactDropClue.j2 kj60 bt232.1 true bt232.2))))) else (some false))))) = some r := by rw [if_neg (show ¬ (false = true) by decide)] at H; exact H
         clear H
         have H := H1
         clear H1
         replace H := Option.bind_eq_some_iff.mp H
         obtain ⟨⟨t232, t233⟩, A910, H⟩ := H
         replace H : ((laws_heldPuzzle.f kj60 t233 1).bind fun t234 => (if t234 < 0 then (some false) else (if t234 = t232 then ((laws_toPuzzle.f kj60 l0_0).bind fun t235 => ((impl_DropClue.f kj60 t235 a1).bind fun bt238 => ((laws_eqPuzzle.f kj60 bt238.1 t210).bind fun t243 => (if t243 = true then (laws_FnExactDropClue.j2 kj60 t232 (bt238.2 != t213) t233) else (laws_FnExactDropClue.j2 kj60 t232 true t233))))) else (some false)))) = some r := H
         have A91 := Aside0.mk A910
         clear A910
         replace H := Option.bind_eq_some_iff.mp H
         obtain ⟨t234, A920, H⟩ := H
         replace H : (if t234 < 0 then (some false) else (if t234 = t232 then ((laws_toPuzzle.f kj60 l0_0).bind fun t235 => ((impl_DropClue.f kj60 t235 a1).bind fun bt238 => ((laws_eqPuzzle.f kj60 bt238.1 t210).bind fun t243 => (if t243 = true then (laws_FnExactDropClue.j2 kj60 t232 (bt238.2 != t213) t233) else (laws_FnExactDropClue.j2 kj60 t232 true t233))))) else (some false))) = some r := H
         have A92 := Aside0.mk A920
         clear A920
         by_cases c93 : t234 < 0
         ·rw [if_pos c93] at H
          have c93b0 : decide (t234 < 0) = true := decide_eq_true c93
          clear c93
          obtain rfl := Option.some.inj H
          have hnb94 := NB223_205.out
          have hnc94 := NB205_223.out
          have hnb95 := NB223_214.out
          have hnc95 := NB214_223.out
          have hnb96 := NB223_218.out
          have hnc96 := NB218_223.out
          have hcz97_0 : wc.cell? ⟨gb223, 0, none⟩ = some (.slice Ao33 t219.length co33) := (blk_cell BK223.out 0).trans rfl
          have hfz97_0 := blk_frozen BK223.out 0
          go_wp2_with (first | ((with_reducible refine gate_callee (f := 26) rfl ?_); refine goesL_ (some 68) rfl rfl Try.func26 (by kernel_rfl) rfl #[.agg #[.slice Ao33 t219.length co33], .int .i64 1] rfl (by (try simp only [List.map_toArray, List.map_cons, List.map_nil]); first | done | rfl | (simp only [List.length_drop, List.length_take]; rfl)) ?_; (with_reducible refine (laws_markPuzzle.calls kj60 (fun k_ => some k_ = (.slice Ao33 t219.length co33 : Value).ownBlock) (.slice Ao33 t219.length co33) t219 1 t232 t233 w _ ?side1 ?side2 A91.out).mono ?_); (case side1 => repeat (first | (with_reducible first | exact HB.out | apply below_alloc | apply pw_below_drewN | apply below_drew1 | refine below_set ?_ GE205.out | refine below_set ?_ GE214.out | refine below_set ?_ GE218.out | refine below_set ?_ GE223.out) | exact HB.out)); (case side2 => exact Kd.R_tight rfl HO_224000.out); rintro e w98 ⟨rfl, hy0, hb, hkp⟩; refine ⟨_, rfl, ?_⟩; have n0_ := Aside0.mk (Kd.R_mono (ok' := fun k_ => some k_ ≠ (.slice Ao27 t230.length co27 : Value).ownBlock ∧ some k_ ≠ (.slice Ao33 t219.length co33 : Value).ownBlock) (Kd.R_keptB (HO_215000.out) hkp (fun k_ hk_ hs_ => (hk_.2) hs_)) (fun k_ hk_ => ⟨hk_.1.1, hk_.1.2⟩)); have n1_ := Aside0.mk (Kd.R_mono (ok' := fun k_ => some k_ ≠ (.slice Ao21 t210.length co21 : Value).ownBlock ∧ some k_ ≠ (.slice Ao33 t219.length co33 : Value).ownBlock) (Kd.R_keptB (HO_219000.out) hkp (fun k_ hk_ hs_ => (hk_.2) hs_)) (fun k_ hk_ => ⟨hk_.1.1, hk_.1.2⟩)); have n2_ := Aside0.mk (Kd.R_reok rfl hy0 (fun k_ e_ => HO_224000.out.1 k_ e_)); have n3_ := Aside0.mk (blk_kept (bk BK205.out) hkp (fun hs_ => (fun e_ => (Kd.R_ne HO_224000.out BK205.out (by decide)) e_) hs_)); have n4_ := Aside0.mk (blk_kept (bk BK214.out) hkp (fun hs_ => (fun e_ => (Kd.R_ne HO_224000.out BK214.out (by decide)) e_) hs_)); have n5_ := Aside0.mk (blk_kept (bk BK218.out) hkp (fun hs_ => (fun e_ => (Kd.R_ne HO_224000.out BK218.out (by decide)) e_) hs_)); have n6_ := Aside0.mk (blk_kept (bk BK223.out) hkp (fun hs_ => (fun e_ => (Kd.R_ne HO_224000.out BK223.out (by decide)) e_) hs_)); have n7_ := Aside0.mk (hb); clear HO_215000; clear HO_219000; clear HO_224000; clear BK205; clear BK214; clear BK218; clear BK223; clear HB; have HO_215000 := n0_; have HO_219000 := n1_; have HO_224000 := n2_; have BK205 := n3_; have BK214 := n4_; have BK218 := n5_; have BK223 := n6_; have HB := n7_; clear n0_ n1_ n2_ n3_ n4_ n5_ n6_ n7_; (try clear hb); (try clear hkp); (try clear hy0); have hcz99_0 : w98.cell? ⟨gb223, 0, none⟩ = some (.slice Ao33 t219.length co33) := (blk_cell BK223.out 0).trans rfl; have hfz99_0 := blk_frozen BK223.out 0) | ((with_reducible refine gate_callee (f := 27) rfl ?_); refine goesL_ (some 71) rfl rfl Try.func27 (by kernel_rfl) rfl #[.agg #[.slice Ao33 t233.length co33], .int .i64 1] rfl (by (try simp only [List.map_toArray, List.map_cons, List.map_nil]); first | done | (rw [show t233.length = t219.length from (Kd.R_reads' HO_224000.out).1.symm] <;> rfl) | rfl | (simp only [List.length_drop, List.length_take]; rfl)) ?_; (with_reducible refine (laws_heldPuzzle.calls kj60 _ _ t233 1 t234 _ ?side1 ?side2 A92.out).mono ?_); (case side1 => repeat (first | exact (Kd.R_reads' HO_224000.out).2.2 | (with_reducible refine Kd.C_alloc ?_ _) | (with_reducible refine Kd.C_drewN ?_ _) | (with_reducible refine Kd.C_drew ?_))); (case side2 => rw [show t233.length = t219.length from (Kd.R_reads' HO_224000.out).1.symm]; exact (Kd.R_reads' HO_224000.out).2.1); rintro e w100 ⟨rfl, hb⟩; refine ⟨_, rfl, ?_⟩; have n0_ := Aside0.mk (Kd.R_below (rk HO_215000.out) hb); have n1_ := Aside0.mk (Kd.R_below (rk HO_219000.out) hb); have n2_ := Aside0.mk (Kd.R_below (rk HO_224000.out) hb); have n3_ := Aside0.mk (blk_below (g := gb205) (o := .cells #[.slice A0_0 l0_0.length c0_0] 24 (0, 0)) (bk BK205.out) hb); have n4_ := Aside0.mk (blk_below (g := gb214) (o := .cells #[.slice Ao21 t210.length co21] 29 (0, 0)) (bk BK214.out) hb); have n5_ := Aside0.mk (blk_below (g := gb218) (o := .cells #[.slice Ao27 t230.length co27] 29 (0, 0)) (bk BK218.out) hb); have n6_ := Aside0.mk (blk_below (g := gb223) (o := .cells #[.slice Ao33 t219.length co33] 29 (0, 0)) (bk BK223.out) hb); have n7_ := Aside0.mk (below_step (hB HB.out) hb); clear HO_215000; clear HO_219000; clear HO_224000; clear BK205; clear BK214; clear BK218; clear BK223; clear HB; have HO_215000 := n0_; have HO_219000 := n1_; have HO_224000 := n2_; have BK205 := n3_; have BK214 := n4_; have BK218 := n5_; have BK223 := n6_; have HB := n7_; clear n0_ n1_ n2_ n3_ n4_ n5_ n6_ n7_; (try clear hb); (try clear hb2); (try clear hk); (try clear hi)))
          go_ret
          exact ⟨by first | rfl | (simp [errW_none, errW_some] <;> rfl) | (simp [*, errW_none, errW_some] <;> rfl), hB HB.out⟩
         ·rw [if_neg c93] at H
          have c93b0 : decide (t234 < 0) = false := decide_eq_false c93
          clear c93
          by_cases c101 : t234 = t232
          ·rw [if_pos c101] at H
           have c101b0 : (t234 == t232) = true := beq_iff_eq.mpr c101
           have c101b1 : (t234 != t232) = false := bne_eq_false_iff_eq.mpr c101
           clear c101
           replace H := Option.bind_eq_some_iff.mp H
           obtain ⟨t235, A1020, H⟩ := H
           replace H : ((impl_DropClue.f kj60 t235 a1).bind fun bt238 => ((laws_eqPuzzle.f kj60 bt238.1 t210).bind fun t243 => (if t243 = true then (laws_FnExactDropClue.j2 kj60 t232 (bt238.2 != t213) t233) else (laws_FnExactDropClue.j2 kj60 t232 true t233)))) = some r := H
           have A102 := Aside0.mk A1020
           clear A1020
           replace H := Option.bind_eq_some_iff.mp H
           obtain ⟨⟨t238, t241⟩, A1030, H⟩ := H
           replace H : ((laws_eqPuzzle.f kj60 t238 t210).bind fun t243 => (if t243 = true then (laws_FnExactDropClue.j2 kj60 t232 (t241 != t213) t233) else (laws_FnExactDropClue.j2 kj60 t232 true t233))) = some r := H
           have A103 := Aside0.mk A1030
           clear A1030
           have HC104 := Aside0.mk H
           clear H
           have hnb105 := NB223_205.out
           have hnc105 := NB205_223.out
           have hnb106 := NB223_214.out
           have hnc106 := NB214_223.out
           have hnb107 := NB223_218.out
           have hnc107 := NB218_223.out
           have hcz108_0 : wc.cell? ⟨gb223, 0, none⟩ = some (.slice Ao33 t219.length co33) := (blk_cell BK223.out 0).trans rfl
           have hfz108_0 := blk_frozen BK223.out 0
           go_upto_region 25 with (first | ((with_reducible refine gate_callee (f := 26) rfl ?_); refine goesL_ (some 68) rfl rfl Try.func26 (by kernel_rfl) rfl #[.agg #[.slice Ao33 t219.length co33], .int .i64 1] rfl (by (try simp only [List.map_toArray, List.map_cons, List.map_nil]); first | done | rfl | (simp only [List.length_drop, List.length_take]; rfl)) ?_; (with_reducible refine (laws_markPuzzle.calls kj60 (fun k_ => some k_ = (.slice Ao33 t219.length co33 : Value).ownBlock) (.slice Ao33 t219.length co33) t219 1 t232 t233 w _ ?side1 ?side2 A91.out).mono ?_); (case side1 => repeat (first | (with_reducible first | exact HB.out | apply below_alloc | apply pw_below_drewN | apply below_drew1 | refine below_set ?_ GE205.out | refine below_set ?_ GE214.out | refine below_set ?_ GE218.out | refine below_set ?_ GE223.out) | exact HB.out)); (case side2 => exact Kd.R_tight rfl HO_224000.out); rintro e w109 ⟨rfl, hy0, hb, hkp⟩; refine ⟨_, rfl, ?_⟩; have n0_ := Aside0.mk (Kd.R_mono (ok' := fun k_ => some k_ ≠ (.slice Ao27 t230.length co27 : Value).ownBlock ∧ some k_ ≠ (.slice Ao33 t219.length co33 : Value).ownBlock) (Kd.R_keptB (HO_215000.out) hkp (fun k_ hk_ hs_ => (hk_.2) hs_)) (fun k_ hk_ => ⟨hk_.1.1, hk_.1.2⟩)); have n1_ := Aside0.mk (Kd.R_mono (ok' := fun k_ => some k_ ≠ (.slice Ao21 t210.length co21 : Value).ownBlock ∧ some k_ ≠ (.slice Ao33 t219.length co33 : Value).ownBlock) (Kd.R_keptB (HO_219000.out) hkp (fun k_ hk_ hs_ => (hk_.2) hs_)) (fun k_ hk_ => ⟨hk_.1.1, hk_.1.2⟩)); have n2_ := Aside0.mk (Kd.R_reok rfl hy0 (fun k_ e_ => HO_224000.out.1 k_ e_)); have n3_ := Aside0.mk (blk_kept (bk BK205.out) hkp (fun hs_ => (fun e_ => (Kd.R_ne HO_224000.out BK205.out (by decide)) e_) hs_)); have n4_ := Aside0.mk (blk_kept (bk BK214.out) hkp (fun hs_ => (fun e_ => (Kd.R_ne HO_224000.out BK214.out (by decide)) e_) hs_)); have n5_ := Aside0.mk (blk_kept (bk BK218.out) hkp (fun hs_ => (fun e_ => (Kd.R_ne HO_224000.out BK218.out (by decide)) e_) hs_)); have n6_ := Aside0.mk (blk_kept (bk BK223.out) hkp (fun hs_ => (fun e_ => (Kd.R_ne HO_224000.out BK223.out (by decide)) e_) hs_)); have n7_ := Aside0.mk (hb); clear HO_215000; clear HO_219000; clear HO_224000; clear BK205; clear BK214; clear BK218; clear BK223; clear HB; have HO_215000 := n0_; have HO_219000 := n1_; have HO_224000 := n2_; have BK205 := n3_; have BK214 := n4_; have BK218 := n5_; have BK223 := n6_; have HB := n7_; clear n0_ n1_ n2_ n3_ n4_ n5_ n6_ n7_; (try clear hb); (try clear hkp); (try clear hy0); have hcz110_0 : w109.cell? ⟨gb223, 0, none⟩ = some (.slice Ao33 t219.length co33) := (blk_cell BK223.out 0).trans rfl; have hfz110_0 := blk_frozen BK223.out 0) | ((with_reducible refine gate_callee (f := 27) rfl ?_); refine goesL_ (some 71) rfl rfl Try.func27 (by kernel_rfl) rfl #[.agg #[.slice Ao33 t233.length co33], .int .i64 1] rfl (by (try simp only [List.map_toArray, List.map_cons, List.map_nil]); first | done | (rw [show t233.length = t219.length from (Kd.R_reads' HO_224000.out).1.symm] <;> rfl) | rfl | (simp only [List.length_drop, List.length_take]; rfl)) ?_; (with_reducible refine (laws_heldPuzzle.calls kj60 _ _ t233 1 t234 _ ?side1 ?side2 A92.out).mono ?_); (case side1 => repeat (first | exact (Kd.R_reads' HO_224000.out).2.2 | (with_reducible refine Kd.C_alloc ?_ _) | (with_reducible refine Kd.C_drewN ?_ _) | (with_reducible refine Kd.C_drew ?_))); (case side2 => rw [show t233.length = t219.length from (Kd.R_reads' HO_224000.out).1.symm]; exact (Kd.R_reads' HO_224000.out).2.1); rintro e w111 ⟨rfl, hb⟩; refine ⟨_, rfl, ?_⟩; have n0_ := Aside0.mk (Kd.R_below (rk HO_215000.out) hb); have n1_ := Aside0.mk (Kd.R_below (rk HO_219000.out) hb); have n2_ := Aside0.mk (Kd.R_below (rk HO_224000.out) hb); have n3_ := Aside0.mk (blk_below (g := gb205) (o := .cells #[.slice A0_0 l0_0.length c0_0] 24 (0, 0)) (bk BK205.out) hb); have n4_ := Aside0.mk (blk_below (g := gb214) (o := .cells #[.slice Ao21 t210.length co21] 29 (0, 0)) (bk BK214.out) hb); have n5_ := Aside0.mk (blk_below (g := gb218) (o := .cells #[.slice Ao27 t230.length co27] 29 (0, 0)) (bk BK218.out) hb); have n6_ := Aside0.mk (blk_below (g := gb223) (o := .cells #[.slice Ao33 t219.length co33] 29 (0, 0)) (bk BK223.out) hb); have n7_ := Aside0.mk (below_step (hB HB.out) hb); clear HO_215000; clear HO_219000; clear HO_224000; clear BK205; clear BK214; clear BK218; clear BK223; clear HB; have HO_215000 := n0_; have HO_219000 := n1_; have HO_224000 := n2_; have BK205 := n3_; have BK214 := n4_; have BK218 := n5_; have BK223 := n6_; have HB := n7_; clear n0_ n1_ n2_ n3_ n4_ n5_ n6_ n7_; (try clear hb); (try clear hb2); (try clear hk); (try clear hi); have hnb112 := NB205_214.out; have hnc112 := NB214_205.out; have hnb113 := NB205_218.out; have hnc113 := NB218_205.out; have hcz114_0 : w111.cell? ⟨gb205, 0, none⟩ = some (.slice A0_0 l0_0.length c0_0) := (blk_cell BK205.out 0).trans rfl; have hfz114_0 := blk_frozen BK205.out 0) | ((with_reducible refine gate_callee (f := 17) rfl ?_); refine goesL_ (some 79) rfl rfl Try.func17 (by kernel_rfl) rfl #[.agg #[.slice A0_0 l0_0.length c0_0]] rfl (by (try simp only [List.map_toArray, List.map_cons, List.map_nil]); first | done | rfl | (simp only [List.length_drop, List.length_take]; rfl)) ?_; (with_reducible refine (laws_toPuzzle.calls kj60 _ _ l0_0 t235 _ ?side1 ?side2 A102.out).mono ?_); (case side1 => repeat (first | exact (Kd.C_below HR0_0.out HB.out) | (with_reducible refine Kd.C_alloc ?_ _) | (with_reducible refine Kd.C_drewN ?_ _) | (with_reducible refine Kd.C_drew ?_))); (case side2 => exact HC0_0.out); rintro e w115 ⟨v236, rfl, ho0, hb⟩; refine ⟨_, rfl, ?_⟩; have n0_ := Aside0.mk (Kd.R_elder' (rk HO_215000.out) (Kd.R_base ho0) hb); have n1_ := Aside0.mk (Kd.R_elder' (rk HO_219000.out) (Kd.R_base ho0) hb); have n2_ := Aside0.mk (Kd.R_elder' (rk HO_224000.out) (Kd.R_base ho0) hb); have n3_ := Aside0.mk (Kd.R_lower (Kd.R_new' (Kd.R_new' (Kd.R_new' ho0 (Kd.R_lt (rk HO_215000.out))) (Kd.R_lt (rk HO_219000.out))) (Kd.R_lt (rk HO_224000.out))) (below_size (hB HB.out))); have n4_ := Aside0.mk (blk_below (g := gb205) (o := .cells #[.slice A0_0 l0_0.length c0_0] 24 (0, 0)) (bk BK205.out) hb); have n5_ := Aside0.mk (blk_below (g := gb214) (o := .cells #[.slice Ao21 t210.length co21] 29 (0, 0)) (bk BK214.out) hb); have n6_ := Aside0.mk (blk_below (g := gb218) (o := .cells #[.slice Ao27 t230.length co27] 29 (0, 0)) (bk BK218.out) hb); have n7_ := Aside0.mk (blk_below (g := gb223) (o := .cells #[.slice Ao33 t219.length co33] 29 (0, 0)) (bk BK223.out) hb); have n8_ := Aside0.mk (below_step (hB HB.out) hb); clear HO_215000; clear HO_219000; clear HO_224000; clear BK205; clear BK214; clear BK218; clear BK223; clear HB; have HO_215000 := n0_; have HO_219000 := n1_; have HO_224000 := n2_; have HO237 := n3_; have BK205 := n4_; have BK214 := n5_; have BK218 := n6_; have BK223 := n7_; have HB := n8_; clear n0_ n1_ n2_ n3_ n4_ n5_ n6_ n7_ n8_; (try clear hb); (try clear hb2); (try clear hk); (try clear hi); (try clear ho0); obtain ⟨Ao116, co116, eo116⟩ := Kd.R_slice HO237.out; subst eo116) | ((with_reducible refine gate_callee (f := 29) rfl ?_); refine goesL_ (some 81) rfl rfl Try.func29 (by kernel_rfl) rfl #[.agg #[.slice Ao116 t235.length co116], .int .i64 a1] rfl (by (try simp only [List.map_toArray, List.map_cons, List.map_nil]); first | done | rfl | (simp only [List.length_drop, List.length_take]; rfl)) ?_; (with_reducible refine (impl_DropClue.calls kj60 _ _ t235 a1 t238 t241 _ ?side1 ?side2 A103.out).mono ?_); (case side1 => repeat (first | exact (Kd.R_reads' HO237.out).2.2 | (with_reducible refine Kd.C_alloc ?_ _) | (with_reducible refine Kd.C_drewN ?_ _) | (with_reducible refine Kd.C_drew ?_))); (case side2 => exact (Kd.R_reads' HO237.out).2.1); rintro e w117 ⟨v239, rfl, ho0, hb⟩; refine ⟨_, rfl, ?_⟩; have n0_ := Aside0.mk (Kd.R_elder' (rk HO_215000.out) (Kd.R_base ho0) hb); have n1_ := Aside0.mk (Kd.R_elder' (rk HO_219000.out) (Kd.R_base ho0) hb); have n2_ := Aside0.mk (Kd.R_elder' (rk HO_224000.out) (Kd.R_base ho0) hb); have n3_ := Aside0.mk (Kd.R_elder' (rk HO237.out) (Kd.R_base ho0) hb); have n4_ := Aside0.mk (Kd.R_lower (Kd.R_new' (Kd.R_new' (Kd.R_new' (Kd.R_new' ho0 (Kd.R_lt (rk HO_215000.out))) (Kd.R_lt (rk HO_219000.out))) (Kd.R_lt (rk HO_224000.out))) (Kd.R_lt (rk HO237.out))) (below_size (hB HB.out))); have n5_ := Aside0.mk (blk_below (g := gb205) (o := .cells #[.slice A0_0 l0_0.length c0_0] 24 (0, 0)) (bk BK205.out) hb); have n6_ := Aside0.mk (blk_below (g := gb214) (o := .cells #[.slice Ao21 t210.length co21] 29 (0, 0)) (bk BK214.out) hb); have n7_ := Aside0.mk (blk_below (g := gb218) (o := .cells #[.slice Ao27 t230.length co27] 29 (0, 0)) (bk BK218.out) hb); have n8_ := Aside0.mk (blk_below (g := gb223) (o := .cells #[.slice Ao33 t219.length co33] 29 (0, 0)) (bk BK223.out) hb); have n9_ := Aside0.mk (below_step (hB HB.out) hb); clear HO_215000; clear HO_219000; clear HO_224000; clear HO237; clear BK205; clear BK214; clear BK218; clear BK223; clear HB; have HO_215000 := n0_; have HO_219000 := n1_; have HO_224000 := n2_; have HO237 := n3_; have HO240 := n4_; have BK205 := n5_; have BK214 := n6_; have BK218 := n7_; have BK223 := n8_; have HB := n9_; clear n0_ n1_ n2_ n3_ n4_ n5_ n6_ n7_ n8_ n9_; (try clear hb); (try clear hb2); (try clear hk); (try clear hi); (try clear ho0)) | ((with_reducible refine gate_dst (N := 14) rfl ?_); refine box_event ?hg (N := 14) ?hd (cs := #[.slice none 0 0]) (t := 29) ?hr ?_; (case hd => rfl); (case hg => rfl); (case hr => first | (go_simp; done) | (go_simp; rfl)); intro gb242 hg w118 hbox hb; have n0_ := Aside0.mk (Kd.R_below (rk HO_215000.out) hb); have n1_ := Aside0.mk (Kd.R_below (rk HO_219000.out) hb); have n2_ := Aside0.mk (Kd.R_below (rk HO_224000.out) hb); have n3_ := Aside0.mk (Kd.R_below (rk HO237.out) hb); have n4_ := Aside0.mk (Kd.R_below (rk HO240.out) hb); have n5_ := Aside0.mk (blk_below (g := gb205) (o := .cells #[.slice A0_0 l0_0.length c0_0] 24 (0, 0)) (bk BK205.out) hb); have n6_ := Aside0.mk (blk_below (g := gb214) (o := .cells #[.slice Ao21 t210.length co21] 29 (0, 0)) (bk BK214.out) hb); have n7_ := Aside0.mk (blk_below (g := gb218) (o := .cells #[.slice Ao27 t230.length co27] 29 (0, 0)) (bk BK218.out) hb); have n8_ := Aside0.mk (blk_below (g := gb223) (o := .cells #[.slice Ao33 t219.length co33] 29 (0, 0)) (bk BK223.out) hb); have n9_ := Aside0.mk (below_step (hB HB.out) hb); have n10_ := Aside0.mk (hbox); have n11_ := Aside0.mk ((by rw [hg]; exact (below_size (hB HB.out)) : w.heap.size ≤ gb242)); have n12_ := Aside0.mk ((by rw [hg]; exact (below_size (hB HB.out)) : w.heap.size ≤ gb242)); have n13_ := Aside0.mk ((by rw [hg]; exact Nat.ne_of_lt (blk_lt (g := gb205) (o := .cells #[.slice A0_0 l0_0.length c0_0] 24 (0, 0)) (bk BK205.out)) : gb205 ≠ gb242)); have n14_ := Aside0.mk ((by rw [hg]; exact Nat.ne_of_gt (blk_lt (g := gb205) (o := .cells #[.slice A0_0 l0_0.length c0_0] 24 (0, 0)) (bk BK205.out)) : gb242 ≠ gb205)); have n15_ := Aside0.mk ((by rw [hg]; exact Nat.ne_of_lt (blk_lt (g := gb214) (o := .cells #[.slice Ao21 t210.length co21] 29 (0, 0)) (bk BK214.out)) : gb214 ≠ gb242)); have n16_ := Aside0.mk ((by rw [hg]; exact Nat.ne_of_gt (blk_lt (g := gb214) (o := .cells #[.slice Ao21 t210.length co21] 29 (0, 0)) (bk BK214.out)) : gb242 ≠ gb214)); have n17_ := Aside0.mk ((by rw [hg]; exact Nat.ne_of_lt (blk_lt (g := gb218) (o := .cells #[.slice Ao27 t230.length co27] 29 (0, 0)) (bk BK218.out)) : gb218 ≠ gb242)); have n18_ := Aside0.mk ((by rw [hg]; exact Nat.ne_of_gt (blk_lt (g := gb218) (o := .cells #[.slice Ao27 t230.length co27] 29 (0, 0)) (bk BK218.out)) : gb242 ≠ gb218)); have n19_ := Aside0.mk ((by rw [hg]; exact Nat.ne_of_lt (blk_lt (g := gb223) (o := .cells #[.slice Ao33 t219.length co33] 29 (0, 0)) (bk BK223.out)) : gb223 ≠ gb242)); have n20_ := Aside0.mk ((by rw [hg]; exact Nat.ne_of_gt (blk_lt (g := gb223) (o := .cells #[.slice Ao33 t219.length co33] 29 (0, 0)) (bk BK223.out)) : gb242 ≠ gb223)); clear HO_215000; clear HO_219000; clear HO_224000; clear HO237; clear HO240; clear BK205; clear BK214; clear BK218; clear BK223; clear HB; have HO_215000 := n0_; have HO_219000 := n1_; have HO_224000 := n2_; have HO237 := n3_; have HO240 := n4_; have BK205 := n5_; have BK214 := n6_; have BK218 := n7_; have BK223 := n8_; have HB := n9_; have BK242 := n10_; have GW242 := n11_; have GE242 := n12_; have NB205_242 := n13_; have NB242_205 := n14_; have NB214_242 := n15_; have NB242_214 := n16_; have NB218_242 := n17_; have NB242_218 := n18_; have NB223_242 := n19_; have NB242_223 := n20_; clear n0_ n1_ n2_ n3_ n4_ n5_ n6_ n7_ n8_ n9_ n10_ n11_ n12_ n13_ n14_ n15_ n16_ n17_ n18_ n19_ n20_; clear hb hbox hg; obtain ⟨Ao119, co119, eo119⟩ := Kd.R_slice HO240.out; subst eo119; have hnb120 := NB242_205.out; have hnc120 := NB205_242.out; have hnb121 := NB242_214.out; have hnc121 := NB214_242.out; have hnb122 := NB242_218.out; have hnc122 := NB218_242.out; have hnb123 := NB242_223.out; have hnc123 := NB223_242.out; have hcz124_0 : w118.cell? ⟨gb242, 0, none⟩ = some (.slice none 0 0) := (blk_cell BK242.out 0).trans rfl; have hfz124_0 := blk_frozen BK242.out 0))
           (try simp only [Act.put, List.setIfInBounds_toArray, List.set_cons_zero, List.set_cons_succ])
           go_cut [92] (fun v92 wc => ∃ (kq : Nat) (x92_103 : Bool), v92 = .bool x92_103 ∧ Aside0 (laws_FnExactDropClue.j2 kq t232 x92_103 t233 = some r) ∧ Aside0 (kq ≤ kj60) ∧ Aside0 (Kd.R k39 39 wc w.heap.size (fun k_ => some k_ ≠ ((.slice Ao27 t230.length co27) : Value).ownBlock ∧ some k_ ≠ ((.slice Ao33 t219.length co33) : Value).ownBlock ∧ some k_ ≠ ((.slice Ao119 t238.length co119) : Value).ownBlock) (.slice Ao21 t210.length co21) t210) ∧ Aside0 (Kd.R k39 39 wc w.heap.size (fun k_ => some k_ ≠ ((.slice Ao21 t210.length co21) : Value).ownBlock ∧ some k_ ≠ ((.slice Ao33 t219.length co33) : Value).ownBlock ∧ some k_ ≠ ((.slice Ao119 t238.length co119) : Value).ownBlock) (.slice Ao27 t230.length co27) t230) ∧ Aside0 (Kd.R k39 39 wc w.heap.size (fun k_ => some k_ ≠ ((.slice Ao21 t210.length co21) : Value).ownBlock ∧ some k_ ≠ ((.slice Ao27 t230.length co27) : Value).ownBlock ∧ some k_ ≠ ((.slice Ao119 t238.length co119) : Value).ownBlock) (.slice Ao33 t219.length co33) t233) ∧ Aside0 (Kd.R k39 39 wc w.heap.size (fun k_ => some k_ ≠ ((.slice Ao21 t210.length co21) : Value).ownBlock ∧ some k_ ≠ ((.slice Ao27 t230.length co27) : Value).ownBlock ∧ some k_ ≠ ((.slice Ao33 t219.length co33) : Value).ownBlock) (.slice Ao119 t238.length co119) t238) ∧ Aside0 (wc.heap[gb205]? = some (.cells #[(.slice A0_0 l0_0.length c0_0)] 24 (0, 0))) ∧ Aside0 (wc.heap[gb214]? = some (.cells #[(.slice Ao21 t210.length co21)] 29 (0, 0))) ∧ Aside0 (wc.heap[gb218]? = some (.cells #[(.slice Ao27 t230.length co27)] 29 (0, 0))) ∧ Aside0 (wc.heap[gb223]? = some (.cells #[(.slice Ao33 t219.length co33)] 29 (0, 0))) ∧ Aside0 (wc.heap[gb242]? = some (.cells #[(.slice Ao119 t238.length co119)] 29 (0, 0))) ∧ Aside0 (Below w.heap.size w wc))
           case first =>
            have H := HC104.out
            clear HC104
            replace H := Option.bind_eq_some_iff.mp H
            obtain ⟨t243, A1250, H⟩ := H
            replace H : (if t243 = true then (laws_FnExactDropClue.j2 kj60 t232 (t241 != t213) t233) else (laws_FnExactDropClue.j2 kj60 t232 true t233)) = some r := H
            have A125 := Aside0.mk A1250
            clear A1250
            by_cases c126 : t243 = true
            ·subst c126
             have H1 : (laws_FnExactDropClue.j2 kj60 t232 (t241 != t213) t233) = some r := by rw [if_pos rfl] at H; exact H
             clear H
             have H := H1
             clear H1
             have H' := Aside0.mk H
             clear H
             have hnb127 := NB242_205.out
             have hnc127 := NB205_242.out
             have hnb128 := NB242_214.out
             have hnc128 := NB214_242.out
             have hnb129 := NB242_218.out
             have hnc129 := NB218_242.out
             have hnb130 := NB242_223.out
             have hnc130 := NB223_242.out
             have hcz131_0 : w118.cell? ⟨gb242, 0, none⟩ = some (.slice none 0 0) := (blk_cell BK242.out 0).trans rfl
             have hfz131_0 := blk_frozen BK242.out 0
             have hnb132 := NB214_205.out
             have hnc132 := NB205_214.out
             have hnb133 := NB214_218.out
             have hnc133 := NB218_214.out
             have hnb134 := NB214_223.out
             have hnc134 := NB223_214.out
             have hcz135_0 : w118.cell? ⟨gb214, 0, none⟩ = some (.slice Ao21 t210.length co21) := (blk_cell BK214.out 0).trans rfl
             have hfz135_0 := blk_frozen BK214.out 0
             go_wp2_with (first | ((with_reducible refine gate_callee (f := 19) rfl ?_); refine goesL_ (some 86) rfl rfl Try.func19 (by kernel_rfl) rfl #[.agg #[.slice Ao119 t238.length co119], .agg #[.slice Ao21 t210.length co21]] rfl (by (try simp only [List.map_toArray, List.map_cons, List.map_nil]); first | done | rfl | (simp only [List.length_drop, List.length_take]; rfl)) ?_; (with_reducible refine (laws_eqPuzzle.calls kj60 _ _ t238 _ _ t210 true _ ?side1 ?side2 ?side3 ?side4 A125.out).mono ?_); (case side1 => refine (Kd.R_reads' (e := 39) (base := w.heap.size) (ok := fun k_ => ((((True ∧ some k_ ≠ (.slice Ao21 t210.length co21 : Value).ownBlock) ∧ some k_ ≠ (.slice Ao27 t230.length co27 : Value).ownBlock) ∧ some k_ ≠ (.slice Ao33 t219.length co33 : Value).ownBlock) ∧ some k_ ≠ (.slice Ao116 t235.length co116 : Value).ownBlock)) (n := t238.length) (c := co119) ?_).2.2; exact (rk (Kd.R_mono (Kd.R_far (p := ⟨gb242, 0, none⟩) (Kd.R_types HO240.out BK242.out (by decide)) (fun _ hk => hk.2) (.slice Ao119 t238.length co119)) (fun _ h_ => h_.1)))); (case side2 => exact (Kd.R_reads' HO240.out).2.1); (case side3 => refine (Kd.R_reads' (e := 39) (base := w.heap.size) (ok := fun k_ => (((some k_ ≠ (.slice Ao27 t230.length co27 : Value).ownBlock ∧ some k_ ≠ (.slice Ao33 t219.length co33 : Value).ownBlock) ∧ some k_ ≠ (.slice Ao116 t235.length co116 : Value).ownBlock) ∧ some k_ ≠ (.slice Ao119 t238.length co119 : Value).ownBlock)) (n := t210.length) (c := co21) ?_).2.2; exact (rk (Kd.R_mono (Kd.R_far (p := ⟨gb242, 0, none⟩) (Kd.R_types HO_215000.out BK242.out (by decide)) (fun _ hk => hk.2) (.slice Ao119 t238.length co119)) (fun _ h_ => h_.1)))); (case side4 => exact (Kd.R_reads' HO_215000.out).2.1); rintro e w136 ⟨rfl, hb⟩; refine ⟨_, rfl, ?_⟩; have n0_ := Aside0.mk (Kd.R_below (rk (Kd.R_mono (Kd.R_far (p := ⟨gb242, 0, none⟩) (Kd.R_types HO_215000.out BK242.out (by decide)) (fun _ hk => hk.2) (.slice Ao119 t238.length co119)) (fun _ h_ => h_.1))) hb); have n1_ := Aside0.mk (Kd.R_below (rk (Kd.R_mono (Kd.R_far (p := ⟨gb242, 0, none⟩) (Kd.R_types HO_219000.out BK242.out (by decide)) (fun _ hk => hk.2) (.slice Ao119 t238.length co119)) (fun _ h_ => h_.1))) hb); have n2_ := Aside0.mk (Kd.R_below (rk (Kd.R_mono (Kd.R_far (p := ⟨gb242, 0, none⟩) (Kd.R_types HO_224000.out BK242.out (by decide)) (fun _ hk => hk.2) (.slice Ao119 t238.length co119)) (fun _ h_ => h_.1))) hb); have n3_ := Aside0.mk (Kd.R_below (rk (Kd.R_mono (Kd.R_far (p := ⟨gb242, 0, none⟩) (Kd.R_types HO237.out BK242.out (by decide)) (fun _ hk => hk.2) (.slice Ao119 t238.length co119)) (fun _ h_ => h_.1))) hb); have n4_ := Aside0.mk (Kd.R_below (rk (Kd.R_mono (Kd.R_far (p := ⟨gb242, 0, none⟩) (Kd.R_types HO240.out BK242.out (by decide)) (fun _ hk => hk.2) (.slice Ao119 t238.length co119)) (fun _ h_ => h_.1))) hb); have n5_ := Aside0.mk (blk_below (g := gb205) (o := .cells #[.slice A0_0 l0_0.length c0_0] 24 (0, 0)) (by (with_reducible repeat (first | refine blk_drewN ?_ _ | refine blk_drew ?_ | refine blk_alloc ?_ _)); refine blk_far ?_ NB205_242.out _; (with_reducible repeat (first | refine blk_drewN ?_ _ | refine blk_drew ?_ | refine blk_alloc ?_ _)); exact BK205.out) hb); have n6_ := Aside0.mk (blk_below (g := gb214) (o := .cells #[.slice Ao21 t210.length co21] 29 (0, 0)) (by (with_reducible repeat (first | refine blk_drewN ?_ _ | refine blk_drew ?_ | refine blk_alloc ?_ _)); refine blk_far ?_ NB214_242.out _; (with_reducible repeat (first | refine blk_drewN ?_ _ | refine blk_drew ?_ | refine blk_alloc ?_ _)); exact BK214.out) hb); have n7_ := Aside0.mk (blk_below (g := gb218) (o := .cells #[.slice Ao27 t230.length co27] 29 (0, 0)) (by (with_reducible repeat (first | refine blk_drewN ?_ _ | refine blk_drew ?_ | refine blk_alloc ?_ _)); refine blk_far ?_ NB218_242.out _; (with_reducible repeat (first | refine blk_drewN ?_ _ | refine blk_drew ?_ | refine blk_alloc ?_ _)); exact BK218.out) hb); have n8_ := Aside0.mk (blk_below (g := gb223) (o := .cells #[.slice Ao33 t219.length co33] 29 (0, 0)) (by (with_reducible repeat (first | refine blk_drewN ?_ _ | refine blk_drew ?_ | refine blk_alloc ?_ _)); refine blk_far ?_ NB223_242.out _; (with_reducible repeat (first | refine blk_drewN ?_ _ | refine blk_drew ?_ | refine blk_alloc ?_ _)); exact BK223.out) hb); have n9_ := Aside0.mk (blk_below (g := gb242) (o := .cells #[.slice Ao119 t238.length co119] 29 (0, 0)) (by (with_reducible repeat (first | refine blk_drewN ?_ _ | refine blk_drew ?_ | refine blk_alloc ?_ _)); refine blk_put (cs := #[.slice none 0 0]) ?_ 0 _ rfl; (with_reducible repeat (first | refine blk_drewN ?_ _ | refine blk_drew ?_ | refine blk_alloc ?_ _)); exact BK242.out) hb); have n10_ := Aside0.mk (below_step (hB HB.out) hb); clear HO_215000; clear HO_219000; clear HO_224000; clear HO237; clear HO240; clear BK205; clear BK214; clear BK218; clear BK223; clear BK242; clear HB; have HO_215000 := n0_; have HO_219000 := n1_; have HO_224000 := n2_; have HO237 := n3_; have HO240 := n4_; have BK205 := n5_; have BK214 := n6_; have BK218 := n7_; have BK223 := n8_; have BK242 := n9_; have HB := n10_; clear n0_ n1_ n2_ n3_ n4_ n5_ n6_ n7_ n8_ n9_ n10_; (try clear hb); (try clear hb2); (try clear hk); (try clear hi)))
             go_meet
             case rel => exact ⟨_, ((t241 != t213)), (by first | rfl | (simp; done) | (simp [*]; done)), H', ⟨by have := HJ11.out; have := HJ60.out; first | omega | exact Nat.le_refl _⟩, ⟨by (try simp only [hl219000_60]); (with_reducible repeat (first | apply Kd.R_alloc | apply Kd.R_drewN | apply Kd.R_drew)); exact Kd.R_mono HO_215000.out (fun _ hk => ⟨hk.1.1.1, ⟨hk.1.1.2, hk.2⟩⟩)⟩, ⟨by (try simp only [hl219000_60]); (with_reducible repeat (first | apply Kd.R_alloc | apply Kd.R_drewN | apply Kd.R_drew)); exact Kd.R_mono HO_219000.out (fun _ hk => ⟨hk.1.1.1, ⟨hk.1.1.2, hk.2⟩⟩)⟩, ⟨by (try simp only [hl219000_60]); (with_reducible repeat (first | apply Kd.R_alloc | apply Kd.R_drewN | apply Kd.R_drew)); exact Kd.R_mono HO_224000.out (fun _ hk => ⟨hk.1.1.1, ⟨hk.1.1.2, hk.2⟩⟩)⟩, ⟨by (try simp only [hl219000_60]); (with_reducible repeat (first | apply Kd.R_alloc | apply Kd.R_drewN | apply Kd.R_drew)); exact Kd.R_mono HO240.out (fun _ hk => ⟨hk.1.1.1.2, ⟨hk.1.1.2, hk.1.2⟩⟩)⟩, ⟨by (try simp only [hl219000_60]); (with_reducible repeat (first | refine blk_drewN ?_ _ | refine blk_drew ?_ | refine blk_alloc ?_ _)); exact BK205.out⟩, ⟨by (try simp only [hl219000_60]); (with_reducible repeat (first | refine blk_drewN ?_ _ | refine blk_drew ?_ | refine blk_alloc ?_ _)); exact BK214.out⟩, ⟨by (try simp only [hl219000_60]); (with_reducible repeat (first | refine blk_drewN ?_ _ | refine blk_drew ?_ | refine blk_alloc ?_ _)); exact BK218.out⟩, ⟨by (try simp only [hl219000_60]); (with_reducible repeat (first | refine blk_drewN ?_ _ | refine blk_drew ?_ | refine blk_alloc ?_ _)); exact BK223.out⟩, ⟨by (try simp only [hl219000_60]); (with_reducible repeat (first | refine blk_drewN ?_ _ | refine blk_drew ?_ | refine blk_alloc ?_ _)); exact BK242.out⟩, ⟨hB HB.out⟩⟩
            ·replace c126 := Bool.eq_false_iff.mpr c126
             subst c126
             have H1 : (laws_FnExactDropClue.j2 kj60 t232 true t233) = some r := by rw [if_neg (show ¬ (false = true) by decide)] at H; exact H
             clear H
             have H := H1
             clear H1
             have H' := Aside0.mk H
             clear H
             have hnb137 := NB242_205.out
             have hnc137 := NB205_242.out
             have hnb138 := NB242_214.out
             have hnc138 := NB214_242.out
             have hnb139 := NB242_218.out
             have hnc139 := NB218_242.out
             have hnb140 := NB242_223.out
             have hnc140 := NB223_242.out
             have hcz141_0 : w118.cell? ⟨gb242, 0, none⟩ = some (.slice none 0 0) := (blk_cell BK242.out 0).trans rfl
             have hfz141_0 := blk_frozen BK242.out 0
             have hnb142 := NB214_205.out
             have hnc142 := NB205_214.out
             have hnb143 := NB214_218.out
             have hnc143 := NB218_214.out
             have hnb144 := NB214_223.out
             have hnc144 := NB223_214.out
             have hcz145_0 : w118.cell? ⟨gb214, 0, none⟩ = some (.slice Ao21 t210.length co21) := (blk_cell BK214.out 0).trans rfl
             have hfz145_0 := blk_frozen BK214.out 0
             go_wp2_with (first | ((with_reducible refine gate_callee (f := 19) rfl ?_); refine goesL_ (some 86) rfl rfl Try.func19 (by kernel_rfl) rfl #[.agg #[.slice Ao119 t238.length co119], .agg #[.slice Ao21 t210.length co21]] rfl (by (try simp only [List.map_toArray, List.map_cons, List.map_nil]); first | done | rfl | (simp only [List.length_drop, List.length_take]; rfl)) ?_; (with_reducible refine (laws_eqPuzzle.calls kj60 _ _ t238 _ _ t210 false _ ?side1 ?side2 ?side3 ?side4 A125.out).mono ?_); (case side1 => refine (Kd.R_reads' (e := 39) (base := w.heap.size) (ok := fun k_ => ((((True ∧ some k_ ≠ (.slice Ao21 t210.length co21 : Value).ownBlock) ∧ some k_ ≠ (.slice Ao27 t230.length co27 : Value).ownBlock) ∧ some k_ ≠ (.slice Ao33 t219.length co33 : Value).ownBlock) ∧ some k_ ≠ (.slice Ao116 t235.length co116 : Value).ownBlock)) (n := t238.length) (c := co119) ?_).2.2; exact (rk (Kd.R_mono (Kd.R_far (p := ⟨gb242, 0, none⟩) (Kd.R_types HO240.out BK242.out (by decide)) (fun _ hk => hk.2) (.slice Ao119 t238.length co119)) (fun _ h_ => h_.1)))); (case side2 => exact (Kd.R_reads' HO240.out).2.1); (case side3 => refine (Kd.R_reads' (e := 39) (base := w.heap.size) (ok := fun k_ => (((some k_ ≠ (.slice Ao27 t230.length co27 : Value).ownBlock ∧ some k_ ≠ (.slice Ao33 t219.length co33 : Value).ownBlock) ∧ some k_ ≠ (.slice Ao116 t235.length co116 : Value).ownBlock) ∧ some k_ ≠ (.slice Ao119 t238.length co119 : Value).ownBlock)) (n := t210.length) (c := co21) ?_).2.2; exact (rk (Kd.R_mono (Kd.R_far (p := ⟨gb242, 0, none⟩) (Kd.R_types HO_215000.out BK242.out (by decide)) (fun _ hk => hk.2) (.slice Ao119 t238.length co119)) (fun _ h_ => h_.1)))); (case side4 => exact (Kd.R_reads' HO_215000.out).2.1); rintro e w146 ⟨rfl, hb⟩; refine ⟨_, rfl, ?_⟩; have n0_ := Aside0.mk (Kd.R_below (rk (Kd.R_mono (Kd.R_far (p := ⟨gb242, 0, none⟩) (Kd.R_types HO_215000.out BK242.out (by decide)) (fun _ hk => hk.2) (.slice Ao119 t238.length co119)) (fun _ h_ => h_.1))) hb); have n1_ := Aside0.mk (Kd.R_below (rk (Kd.R_mono (Kd.R_far (p := ⟨gb242, 0, none⟩) (Kd.R_types HO_219000.out BK242.out (by decide)) (fun _ hk => hk.2) (.slice Ao119 t238.length co119)) (fun _ h_ => h_.1))) hb); have n2_ := Aside0.mk (Kd.R_below (rk (Kd.R_mono (Kd.R_far (p := ⟨gb242, 0, none⟩) (Kd.R_types HO_224000.out BK242.out (by decide)) (fun _ hk => hk.2) (.slice Ao119 t238.length co119)) (fun _ h_ => h_.1))) hb); have n3_ := Aside0.mk (Kd.R_below (rk (Kd.R_mono (Kd.R_far (p := ⟨gb242, 0, none⟩) (Kd.R_types HO237.out BK242.out (by decide)) (fun _ hk => hk.2) (.slice Ao119 t238.length co119)) (fun _ h_ => h_.1))) hb); have n4_ := Aside0.mk (Kd.R_below (rk (Kd.R_mono (Kd.R_far (p := ⟨gb242, 0, none⟩) (Kd.R_types HO240.out BK242.out (by decide)) (fun _ hk => hk.2) (.slice Ao119 t238.length co119)) (fun _ h_ => h_.1))) hb); have n5_ := Aside0.mk (blk_below (g := gb205) (o := .cells #[.slice A0_0 l0_0.length c0_0] 24 (0, 0)) (by (with_reducible repeat (first | refine blk_drewN ?_ _ | refine blk_drew ?_ | refine blk_alloc ?_ _)); refine blk_far ?_ NB205_242.out _; (with_reducible repeat (first | refine blk_drewN ?_ _ | refine blk_drew ?_ | refine blk_alloc ?_ _)); exact BK205.out) hb); have n6_ := Aside0.mk (blk_below (g := gb214) (o := .cells #[.slice Ao21 t210.length co21] 29 (0, 0)) (by (with_reducible repeat (first | refine blk_drewN ?_ _ | refine blk_drew ?_ | refine blk_alloc ?_ _)); refine blk_far ?_ NB214_242.out _; (with_reducible repeat (first | refine blk_drewN ?_ _ | refine blk_drew ?_ | refine blk_alloc ?_ _)); exact BK214.out) hb); have n7_ := Aside0.mk (blk_below (g := gb218) (o := .cells #[.slice Ao27 t230.length co27] 29 (0, 0)) (by (with_reducible repeat (first | refine blk_drewN ?_ _ | refine blk_drew ?_ | refine blk_alloc ?_ _)); refine blk_far ?_ NB218_242.out _; (with_reducible repeat (first | refine blk_drewN ?_ _ | refine blk_drew ?_ | refine blk_alloc ?_ _)); exact BK218.out) hb); have n8_ := Aside0.mk (blk_below (g := gb223) (o := .cells #[.slice Ao33 t219.length co33] 29 (0, 0)) (by (with_reducible repeat (first | refine blk_drewN ?_ _ | refine blk_drew ?_ | refine blk_alloc ?_ _)); refine blk_far ?_ NB223_242.out _; (with_reducible repeat (first | refine blk_drewN ?_ _ | refine blk_drew ?_ | refine blk_alloc ?_ _)); exact BK223.out) hb); have n9_ := Aside0.mk (blk_below (g := gb242) (o := .cells #[.slice Ao119 t238.length co119] 29 (0, 0)) (by (with_reducible repeat (first | refine blk_drewN ?_ _ | refine blk_drew ?_ | refine blk_alloc ?_ _)); refine blk_put (cs := #[.slice none 0 0]) ?_ 0 _ rfl; (with_reducible repeat (first | refine blk_drewN ?_ _ | refine blk_drew ?_ | refine blk_alloc ?_ _)); exact BK242.out) hb); have n10_ := Aside0.mk (below_step (hB HB.out) hb); clear HO_215000; clear HO_219000; clear HO_224000; clear HO237; clear HO240; clear BK205; clear BK214; clear BK218; clear BK223; clear BK242; clear HB; have HO_215000 := n0_; have HO_219000 := n1_; have HO_224000 := n2_; have HO237 := n3_; have HO240 := n4_; have BK205 := n5_; have BK214 := n6_; have BK218 := n7_; have BK223 := n8_; have BK242 := n9_; have HB := n10_; clear n0_ n1_ n2_ n3_ n4_ n5_ n6_ n7_ n8_ n9_ n10_; (try clear hb); (try clear hb2); (try clear hk); (try clear hi)))
             go_meet
             case rel => exact ⟨_, (true), (by first | rfl | (simp; done) | (simp [*]; done)), H', ⟨by have := HJ11.out; have := HJ60.out; first | omega | exact Nat.le_refl _⟩, ⟨by (try simp only [hl219000_60]); (with_reducible repeat (first | apply Kd.R_alloc | apply Kd.R_drewN | apply Kd.R_drew)); exact Kd.R_mono HO_215000.out (fun _ hk => ⟨hk.1.1.1, ⟨hk.1.1.2, hk.2⟩⟩)⟩, ⟨by (try simp only [hl219000_60]); (with_reducible repeat (first | apply Kd.R_alloc | apply Kd.R_drewN | apply Kd.R_drew)); exact Kd.R_mono HO_219000.out (fun _ hk => ⟨hk.1.1.1, ⟨hk.1.1.2, hk.2⟩⟩)⟩, ⟨by (try simp only [hl219000_60]); (with_reducible repeat (first | apply Kd.R_alloc | apply Kd.R_drewN | apply Kd.R_drew)); exact Kd.R_mono HO_224000.out (fun _ hk => ⟨hk.1.1.1, ⟨hk.1.1.2, hk.2⟩⟩)⟩, ⟨by (try simp only [hl219000_60]); (with_reducible repeat (first | apply Kd.R_alloc | apply Kd.R_drewN | apply Kd.R_drew)); exact Kd.R_mono HO240.out (fun _ hk => ⟨hk.1.1.1.2, ⟨hk.1.1.2, hk.1.2⟩⟩)⟩, ⟨by (try simp only [hl219000_60]); (with_reducible repeat (first | refine blk_drewN ?_ _ | refine blk_drew ?_ | refine blk_alloc ?_ _)); exact BK205.out⟩, ⟨by (try simp only [hl219000_60]); (with_reducible repeat (first | refine blk_drewN ?_ _ | refine blk_drew ?_ | refine blk_alloc ?_ _)); exact BK214.out⟩, ⟨by (try simp only [hl219000_60]); (with_reducible repeat (first | refine blk_drewN ?_ _ | refine blk_drew ?_ | refine blk_alloc ?_ _)); exact BK218.out⟩, ⟨by (try simp only [hl219000_60]); (with_reducible repeat (first | refine blk_drewN ?_ _ | refine blk_drew ?_ | refine blk_alloc ?_ _)); exact BK223.out⟩, ⟨by (try simp only [hl219000_60]); (with_reducible repeat (first | refine blk_drewN ?_ _ | refine blk_drew ?_ | refine blk_alloc ?_ _)); exact BK242.out⟩, ⟨hB HB.out⟩⟩
           case rest =>
            clear HC104
            try clear c1
            try clear c2
            try clear p2
            try clear c3
            try clear c4
            try clear c4b0
            try clear c5
            try clear c6
            try clear c7
            try clear c8
            try clear c9
            try clear c10
            try clear c11
            try clear c12
            try clear c13
            try clear c14
            try clear c15
            try clear c17
            try clear c19
            try clear c22
            try clear c26
            try clear c27
            try clear c28
            try clear c29
            try clear c34
            try clear c35
            try clear c36
            try clear c39
            try clear c40
            try clear c41
            try clear c42
            try clear c44
            try clear c45
            try clear c48
            try clear c49
            try clear c50
            try clear c52
            try clear c53
            try clear c56
            try clear c59
            try clear c66
            try clear c67
            try clear c68
            try clear c71
            try clear c71b0
            try clear c73
            try clear c74
            try clear c75
            try clear c76
            try clear c78
            try clear c79
            try clear c82
            try clear c83
            try clear c84
            try clear c86
            try clear c87
            try clear c90
            try clear c93
            try clear c93b0
            try clear c94
            try clear c95
            try clear c96
            try clear c101
            try clear c101b0
            try clear c101b1
            try clear c105
            try clear c106
            try clear c107
            try clear c112
            try clear c113
            try clear c120
            try clear c121
            try clear c122
            try clear c123
            try clear c126
            try clear c127
            try clear c128
            try clear c129
            try clear c130
            try clear c132
            try clear c133
            try clear c134
            try clear c137
            try clear c138
            try clear c139
            try clear c140
            try clear c142
            try clear c143
            try clear c144
            try clear hcz108_0
            try clear hcz110_0
            try clear hcz114_0
            try clear hcz124_0
            try clear hcz131_0
            try clear hcz135_0
            try clear hcz141_0
            try clear hcz145_0
            try clear hcz14_0
            try clear hcz16_0
            try clear hcz23_0
            try clear hcz24_0
            try clear hcz30_0
            try clear hcz37_0
            try clear hcz43_0
            try clear hcz46_0
            try clear hcz51_0
            try clear hcz54_0
            try clear hcz69_0
            try clear hcz6_0
            try clear hcz77_0
            try clear hcz80_0
            try clear hcz85_0
            try clear hcz88_0
            try clear hcz97_0
            try clear hcz99_0
            try clear hfz108_0
            try clear hfz110_0
            try clear hfz114_0
            try clear hfz124_0
            try clear hfz131_0
            try clear hfz135_0
            try clear hfz141_0
            try clear hfz145_0
            try clear hfz14_0
            try clear hfz16_0
            try clear hfz23_0
            try clear hfz24_0
            try clear hfz30_0
            try clear hfz37_0
            try clear hfz43_0
            try clear hfz46_0
            try clear hfz51_0
            try clear hfz54_0
            try clear hfz69_0
            try clear hfz6_0
            try clear hfz77_0
            try clear hfz80_0
            try clear hfz85_0
            try clear hfz88_0
            try clear hfz97_0
            try clear hfz99_0
            try clear p2
            obtain ⟨kq, x92_103, rfl, HA, HJ103, HO_215000, HO_219000, HO_224000, HO_243000, BK205, BK214, BK218, BK223, BK242, HB⟩ := hcut
            have hl224000_103 := (Kd.R_reads' HO_224000.out).1
            rw [hl224000_103] at HO_224000
            (try simp only [hl224000_103])
            (try simp only [hl224000_103] at BK205)
            (try simp only [hl224000_103] at BK214)
            (try simp only [hl224000_103] at BK218)
            (try simp only [hl224000_103] at BK223)
            (try simp only [hl224000_103] at BK242)
            (try simp only [hl224000_103] at HO_215000)
            (try simp only [hl224000_103] at HO_219000)
            (try simp only [hl224000_103] at HO_243000)
            cases kq with
            | zero => exact absurd HA.out (by simp [laws_FnExactDropClue.j2])
            | succ kj103 =>
             have H := HA.out
             clear HA
             simp only [laws_FnExactDropClue.j2] at H
             by_cases c147 : x92_103 = true
             ·subst c147
              have H1 : (some false) = some r := by rw [if_pos rfl] at H; exact H
              clear H
              have H := H1
              clear H1
              obtain rfl := Option.some.inj H
              go_wp2
              go_ret
              exact ⟨by first | rfl | (simp [errW_none, errW_some] <;> rfl) | (simp [*, errW_none, errW_some] <;> rfl), hB HB.out⟩
             ·replace c147 := Bool.eq_false_iff.mpr c147
              subst c147
              have H1 : ((laws_heldPuzzle.f kj103 t233 1).bind fun t244 => (if t244 < 0 then (some false) else (if t244 = t232 then (some true) else (some false)))) = some r := by rw [if_neg (show ¬ (false = true) by decide)] at H; exact H
              clear H
              have H := H1
              clear H1
              replace H := Option.bind_eq_some_iff.mp H
              obtain ⟨t244, A1480, H⟩ := H
              replace H : (if t244 < 0 then (some false) else (if t244 = t232 then (some true) else (some false))) = some r := H
              have A148 := Aside0.mk A1480
              clear A1480
              by_cases c149 : t244 < 0
              ·rw [if_pos c149] at H
               have c149b0 : decide (t244 < 0) = true := decide_eq_true c149
               clear c149
               obtain rfl := Option.some.inj H
               have hnb150 := NB223_205.out
               have hnc150 := NB205_223.out
               have hnb151 := NB223_214.out
               have hnc151 := NB214_223.out
               have hnb152 := NB223_218.out
               have hnc152 := NB218_223.out
               have hnb153 := NB223_242.out
               have hnc153 := NB242_223.out
               have hcz154_0 : wc.cell? ⟨gb223, 0, none⟩ = some (.slice Ao33 t233.length co33) := (blk_cell BK223.out 0).trans rfl
               have hfz154_0 := blk_frozen BK223.out 0
               go_wp2_with (first | ((with_reducible refine gate_callee (f := 27) rfl ?_); refine goesL_ (some 95) rfl rfl Try.func27 (by kernel_rfl) rfl #[.agg #[.slice Ao33 t233.length co33], .int .i64 1] rfl (by (try simp only [List.map_toArray, List.map_cons, List.map_nil]); first | done | rfl | (simp only [List.length_drop, List.length_take]; rfl)) ?_; (with_reducible refine (laws_heldPuzzle.calls kj103 _ _ t233 1 t244 _ ?side1 ?side2 A148.out).mono ?_); (case side1 => repeat (first | exact (Kd.R_reads' HO_224000.out).2.2 | (with_reducible refine Kd.C_alloc ?_ _) | (with_reducible refine Kd.C_drewN ?_ _) | (with_reducible refine Kd.C_drew ?_))); (case side2 => exact (Kd.R_reads' HO_224000.out).2.1); rintro e w155 ⟨rfl, hb⟩; refine ⟨_, rfl, ?_⟩; have n0_ := Aside0.mk (Kd.R_below (rk HO_215000.out) hb); have n1_ := Aside0.mk (Kd.R_below (rk HO_219000.out) hb); have n2_ := Aside0.mk (Kd.R_below (rk HO_224000.out) hb); have n3_ := Aside0.mk (Kd.R_below (rk HO_243000.out) hb); have n4_ := Aside0.mk (blk_below (g := gb205) (o := .cells #[.slice A0_0 l0_0.length c0_0] 24 (0, 0)) (bk BK205.out) hb); have n5_ := Aside0.mk (blk_below (g := gb214) (o := .cells #[.slice Ao21 t210.length co21] 29 (0, 0)) (bk BK214.out) hb); have n6_ := Aside0.mk (blk_below (g := gb218) (o := .cells #[.slice Ao27 t230.length co27] 29 (0, 0)) (bk BK218.out) hb); have n7_ := Aside0.mk (blk_below (g := gb223) (o := .cells #[.slice Ao33 t233.length co33] 29 (0, 0)) (bk BK223.out) hb); have n8_ := Aside0.mk (blk_below (g := gb242) (o := .cells #[.slice Ao119 t238.length co119] 29 (0, 0)) (bk BK242.out) hb); have n9_ := Aside0.mk (below_step (hB HB.out) hb); clear HO_215000; clear HO_219000; clear HO_224000; clear HO_243000; clear BK205; clear BK214; clear BK218; clear BK223; clear BK242; clear HB; have HO_215000 := n0_; have HO_219000 := n1_; have HO_224000 := n2_; have HO_243000 := n3_; have BK205 := n4_; have BK214 := n5_; have BK218 := n6_; have BK223 := n7_; have BK242 := n8_; have HB := n9_; clear n0_ n1_ n2_ n3_ n4_ n5_ n6_ n7_ n8_ n9_; (try clear hb); (try clear hb2); (try clear hk); (try clear hi)))
               go_ret
               exact ⟨by first | rfl | (simp [errW_none, errW_some] <;> rfl) | (simp [*, errW_none, errW_some] <;> rfl), hB HB.out⟩
              ·rw [if_neg c149] at H
               have c149b0 : decide (t244 < 0) = false := decide_eq_false c149
               clear c149
               by_cases c156 : t244 = t232
               ·rw [if_pos c156] at H
                have c156b0 : (t244 == t232) = true := beq_iff_eq.mpr c156
                have c156b1 : (t244 != t232) = false := bne_eq_false_iff_eq.mpr c156
                clear c156
                obtain rfl := Option.some.inj H
                have hnb157 := NB223_205.out
                have hnc157 := NB205_223.out
                have hnb158 := NB223_214.out
                have hnc158 := NB214_223.out
                have hnb159 := NB223_218.out
                have hnc159 := NB218_223.out
                have hnb160 := NB223_242.out
                have hnc160 := NB242_223.out
                have hcz161_0 : wc.cell? ⟨gb223, 0, none⟩ = some (.slice Ao33 t233.length co33) := (blk_cell BK223.out 0).trans rfl
                have hfz161_0 := blk_frozen BK223.out 0
                go_wp2_with (first | ((with_reducible refine gate_callee (f := 27) rfl ?_); refine goesL_ (some 95) rfl rfl Try.func27 (by kernel_rfl) rfl #[.agg #[.slice Ao33 t233.length co33], .int .i64 1] rfl (by (try simp only [List.map_toArray, List.map_cons, List.map_nil]); first | done | rfl | (simp only [List.length_drop, List.length_take]; rfl)) ?_; (with_reducible refine (laws_heldPuzzle.calls kj103 _ _ t233 1 t244 _ ?side1 ?side2 A148.out).mono ?_); (case side1 => repeat (first | exact (Kd.R_reads' HO_224000.out).2.2 | (with_reducible refine Kd.C_alloc ?_ _) | (with_reducible refine Kd.C_drewN ?_ _) | (with_reducible refine Kd.C_drew ?_))); (case side2 => exact (Kd.R_reads' HO_224000.out).2.1); rintro e w162 ⟨rfl, hb⟩; refine ⟨_, rfl, ?_⟩; have n0_ := Aside0.mk (Kd.R_below (rk HO_215000.out) hb); have n1_ := Aside0.mk (Kd.R_below (rk HO_219000.out) hb); have n2_ := Aside0.mk (Kd.R_below (rk HO_224000.out) hb); have n3_ := Aside0.mk (Kd.R_below (rk HO_243000.out) hb); have n4_ := Aside0.mk (blk_below (g := gb205) (o := .cells #[.slice A0_0 l0_0.length c0_0] 24 (0, 0)) (bk BK205.out) hb); have n5_ := Aside0.mk (blk_below (g := gb214) (o := .cells #[.slice Ao21 t210.length co21] 29 (0, 0)) (bk BK214.out) hb); have n6_ := Aside0.mk (blk_below (g := gb218) (o := .cells #[.slice Ao27 t230.length co27] 29 (0, 0)) (bk BK218.out) hb); have n7_ := Aside0.mk (blk_below (g := gb223) (o := .cells #[.slice Ao33 t233.length co33] 29 (0, 0)) (bk BK223.out) hb); have n8_ := Aside0.mk (blk_below (g := gb242) (o := .cells #[.slice Ao119 t238.length co119] 29 (0, 0)) (bk BK242.out) hb); have n9_ := Aside0.mk (below_step (hB HB.out) hb); clear HO_215000; clear HO_219000; clear HO_224000; clear HO_243000; clear BK205; clear BK214; clear BK218; clear BK223; clear BK242; clear HB; have HO_215000 := n0_; have HO_219000 := n1_; have HO_224000 := n2_; have HO_243000 := n3_; have BK205 := n4_; have BK214 := n5_; have BK218 := n6_; have BK223 := n7_; have BK242 := n8_; have HB := n9_; clear n0_ n1_ n2_ n3_ n4_ n5_ n6_ n7_ n8_ n9_; (try clear hb); (try clear hb2); (try clear hk); (try clear hi)))
                go_ret
                exact ⟨by first | rfl | (simp [errW_none, errW_some] <;> rfl) | (simp [*, errW_none, errW_some] <;> rfl), hB HB.out⟩
               ·rw [if_neg c156] at H
                have c156b0 : (t244 == t232) = false := beq_eq_false_iff_ne.mpr c156
                have c156b1 : (t244 != t232) = true := bne_iff_ne.mpr c156
                obtain rfl := Option.some.inj H
                have hnb163 := NB223_205.out
                have hnc163 := NB205_223.out
                have hnb164 := NB223_214.out
                have hnc164 := NB214_223.out
                have hnb165 := NB223_218.out
                have hnc165 := NB218_223.out
                have hnb166 := NB223_242.out
                have hnc166 := NB242_223.out
                have hcz167_0 : wc.cell? ⟨gb223, 0, none⟩ = some (.slice Ao33 t233.length co33) := (blk_cell BK223.out 0).trans rfl
                have hfz167_0 := blk_frozen BK223.out 0
                go_wp2_with (first | ((with_reducible refine gate_callee (f := 27) rfl ?_); refine goesL_ (some 95) rfl rfl Try.func27 (by kernel_rfl) rfl #[.agg #[.slice Ao33 t233.length co33], .int .i64 1] rfl (by (try simp only [List.map_toArray, List.map_cons, List.map_nil]); first | done | rfl | (simp only [List.length_drop, List.length_take]; rfl)) ?_; (with_reducible refine (laws_heldPuzzle.calls kj103 _ _ t233 1 t244 _ ?side1 ?side2 A148.out).mono ?_); (case side1 => repeat (first | exact (Kd.R_reads' HO_224000.out).2.2 | (with_reducible refine Kd.C_alloc ?_ _) | (with_reducible refine Kd.C_drewN ?_ _) | (with_reducible refine Kd.C_drew ?_))); (case side2 => exact (Kd.R_reads' HO_224000.out).2.1); rintro e w168 ⟨rfl, hb⟩; refine ⟨_, rfl, ?_⟩; have n0_ := Aside0.mk (Kd.R_below (rk HO_215000.out) hb); have n1_ := Aside0.mk (Kd.R_below (rk HO_219000.out) hb); have n2_ := Aside0.mk (Kd.R_below (rk HO_224000.out) hb); have n3_ := Aside0.mk (Kd.R_below (rk HO_243000.out) hb); have n4_ := Aside0.mk (blk_below (g := gb205) (o := .cells #[.slice A0_0 l0_0.length c0_0] 24 (0, 0)) (bk BK205.out) hb); have n5_ := Aside0.mk (blk_below (g := gb214) (o := .cells #[.slice Ao21 t210.length co21] 29 (0, 0)) (bk BK214.out) hb); have n6_ := Aside0.mk (blk_below (g := gb218) (o := .cells #[.slice Ao27 t230.length co27] 29 (0, 0)) (bk BK218.out) hb); have n7_ := Aside0.mk (blk_below (g := gb223) (o := .cells #[.slice Ao33 t233.length co33] 29 (0, 0)) (bk BK223.out) hb); have n8_ := Aside0.mk (blk_below (g := gb242) (o := .cells #[.slice Ao119 t238.length co119] 29 (0, 0)) (bk BK242.out) hb); have n9_ := Aside0.mk (below_step (hB HB.out) hb); clear HO_215000; clear HO_219000; clear HO_224000; clear HO_243000; clear BK205; clear BK214; clear BK218; clear BK223; clear BK242; clear HB; have HO_215000 := n0_; have HO_219000 := n1_; have HO_224000 := n2_; have HO_243000 := n3_; have BK205 := n4_; have BK214 := n5_; have BK218 := n6_; have BK223 := n7_; have BK242 := n8_; have HB := n9_; clear n0_ n1_ n2_ n3_ n4_ n5_ n6_ n7_ n8_ n9_; (try clear hb); (try clear hb2); (try clear hk); (try clear hi)))
                go_ret
                exact ⟨by first | rfl | (simp [errW_none, errW_some] <;> rfl) | (simp [*, errW_none, errW_some] <;> rfl), hB HB.out⟩
          ·rw [if_neg c101] at H
           have c101b0 : (t234 == t232) = false := beq_eq_false_iff_ne.mpr c101
           have c101b1 : (t234 != t232) = true := bne_iff_ne.mpr c101
           obtain rfl := Option.some.inj H
           have hnb169 := NB223_205.out
           have hnc169 := NB205_223.out
           have hnb170 := NB223_214.out
           have hnc170 := NB214_223.out
           have hnb171 := NB223_218.out
           have hnc171 := NB218_223.out
           have hcz172_0 : wc.cell? ⟨gb223, 0, none⟩ = some (.slice Ao33 t219.length co33) := (blk_cell BK223.out 0).trans rfl
           have hfz172_0 := blk_frozen BK223.out 0
           go_wp2_with (first | ((with_reducible refine gate_callee (f := 26) rfl ?_); refine goesL_ (some 68) rfl rfl Try.func26 (by kernel_rfl) rfl #[.agg #[.slice Ao33 t219.length co33], .int .i64 1] rfl (by (try simp only [List.map_toArray, List.map_cons, List.map_nil]); first | done | rfl | (simp only [List.length_drop, List.length_take]; rfl)) ?_; (with_reducible refine (laws_markPuzzle.calls kj60 (fun k_ => some k_ = (.slice Ao33 t219.length co33 : Value).ownBlock) (.slice Ao33 t219.length co33) t219 1 t232 t233 w _ ?side1 ?side2 A91.out).mono ?_); (case side1 => repeat (first | (with_reducible first | exact HB.out | apply below_alloc | apply pw_below_drewN | apply below_drew1 | refine below_set ?_ GE205.out | refine below_set ?_ GE214.out | refine below_set ?_ GE218.out | refine below_set ?_ GE223.out) | exact HB.out)); (case side2 => exact Kd.R_tight rfl HO_224000.out); rintro e w173 ⟨rfl, hy0, hb, hkp⟩; refine ⟨_, rfl, ?_⟩; have n0_ := Aside0.mk (Kd.R_mono (ok' := fun k_ => some k_ ≠ (.slice Ao27 t230.length co27 : Value).ownBlock ∧ some k_ ≠ (.slice Ao33 t219.length co33 : Value).ownBlock) (Kd.R_keptB (HO_215000.out) hkp (fun k_ hk_ hs_ => (hk_.2) hs_)) (fun k_ hk_ => ⟨hk_.1.1, hk_.1.2⟩)); have n1_ := Aside0.mk (Kd.R_mono (ok' := fun k_ => some k_ ≠ (.slice Ao21 t210.length co21 : Value).ownBlock ∧ some k_ ≠ (.slice Ao33 t219.length co33 : Value).ownBlock) (Kd.R_keptB (HO_219000.out) hkp (fun k_ hk_ hs_ => (hk_.2) hs_)) (fun k_ hk_ => ⟨hk_.1.1, hk_.1.2⟩)); have n2_ := Aside0.mk (Kd.R_reok rfl hy0 (fun k_ e_ => HO_224000.out.1 k_ e_)); have n3_ := Aside0.mk (blk_kept (bk BK205.out) hkp (fun hs_ => (fun e_ => (Kd.R_ne HO_224000.out BK205.out (by decide)) e_) hs_)); have n4_ := Aside0.mk (blk_kept (bk BK214.out) hkp (fun hs_ => (fun e_ => (Kd.R_ne HO_224000.out BK214.out (by decide)) e_) hs_)); have n5_ := Aside0.mk (blk_kept (bk BK218.out) hkp (fun hs_ => (fun e_ => (Kd.R_ne HO_224000.out BK218.out (by decide)) e_) hs_)); have n6_ := Aside0.mk (blk_kept (bk BK223.out) hkp (fun hs_ => (fun e_ => (Kd.R_ne HO_224000.out BK223.out (by decide)) e_) hs_)); have n7_ := Aside0.mk (hb); clear HO_215000; clear HO_219000; clear HO_224000; clear BK205; clear BK214; clear BK218; clear BK223; clear HB; have HO_215000 := n0_; have HO_219000 := n1_; have HO_224000 := n2_; have BK205 := n3_; have BK214 := n4_; have BK218 := n5_; have BK223 := n6_; have HB := n7_; clear n0_ n1_ n2_ n3_ n4_ n5_ n6_ n7_; (try clear hb); (try clear hkp); (try clear hy0); have hcz174_0 : w173.cell? ⟨gb223, 0, none⟩ = some (.slice Ao33 t219.length co33) := (blk_cell BK223.out 0).trans rfl; have hfz174_0 := blk_frozen BK223.out 0) | ((with_reducible refine gate_callee (f := 27) rfl ?_); refine goesL_ (some 71) rfl rfl Try.func27 (by kernel_rfl) rfl #[.agg #[.slice Ao33 t233.length co33], .int .i64 1] rfl (by (try simp only [List.map_toArray, List.map_cons, List.map_nil]); first | done | (rw [show t233.length = t219.length from (Kd.R_reads' HO_224000.out).1.symm] <;> rfl) | rfl | (simp only [List.length_drop, List.length_take]; rfl)) ?_; (with_reducible refine (laws_heldPuzzle.calls kj60 _ _ t233 1 t234 _ ?side1 ?side2 A92.out).mono ?_); (case side1 => repeat (first | exact (Kd.R_reads' HO_224000.out).2.2 | (with_reducible refine Kd.C_alloc ?_ _) | (with_reducible refine Kd.C_drewN ?_ _) | (with_reducible refine Kd.C_drew ?_))); (case side2 => rw [show t233.length = t219.length from (Kd.R_reads' HO_224000.out).1.symm]; exact (Kd.R_reads' HO_224000.out).2.1); rintro e w175 ⟨rfl, hb⟩; refine ⟨_, rfl, ?_⟩; have n0_ := Aside0.mk (Kd.R_below (rk HO_215000.out) hb); have n1_ := Aside0.mk (Kd.R_below (rk HO_219000.out) hb); have n2_ := Aside0.mk (Kd.R_below (rk HO_224000.out) hb); have n3_ := Aside0.mk (blk_below (g := gb205) (o := .cells #[.slice A0_0 l0_0.length c0_0] 24 (0, 0)) (bk BK205.out) hb); have n4_ := Aside0.mk (blk_below (g := gb214) (o := .cells #[.slice Ao21 t210.length co21] 29 (0, 0)) (bk BK214.out) hb); have n5_ := Aside0.mk (blk_below (g := gb218) (o := .cells #[.slice Ao27 t230.length co27] 29 (0, 0)) (bk BK218.out) hb); have n6_ := Aside0.mk (blk_below (g := gb223) (o := .cells #[.slice Ao33 t219.length co33] 29 (0, 0)) (bk BK223.out) hb); have n7_ := Aside0.mk (below_step (hB HB.out) hb); clear HO_215000; clear HO_219000; clear HO_224000; clear BK205; clear BK214; clear BK218; clear BK223; clear HB; have HO_215000 := n0_; have HO_219000 := n1_; have HO_224000 := n2_; have BK205 := n3_; have BK214 := n4_; have BK218 := n5_; have BK223 := n6_; have HB := n7_; clear n0_ n1_ n2_ n3_ n4_ n5_ n6_ n7_; (try clear hb); (try clear hb2); (try clear hk); (try clear hi)))
           go_ret
           exact ⟨by first | rfl | (simp [errW_none, errW_some] <;> rfl) | (simp [*, errW_none, errW_some] <;> rfl), hB HB.out⟩
     ·replace c59 := Bool.eq_false_iff.mpr c59
      subst c59
      have H1 : (some false) = some r := by rw [if_neg (show ¬ (false = true) by decide)] at H; exact H
      clear H
      have H := H1
      clear H1
      obtain rfl := Option.some.inj H
      try go_wp2
      have n0_ := Aside0.mk (Kd.R_drew HO_215000.out)
      have n1_ := Aside0.mk (Kd.R_drew HO_219000.out)
      have n2_ := Aside0.mk (Kd.R_drew HO_224000.out)
      have n3_ := Aside0.mk (blk_drew BK205.out)
      have n4_ := Aside0.mk (blk_drew BK214.out)
      have n5_ := Aside0.mk (blk_drew BK218.out)
      have n6_ := Aside0.mk (blk_drew BK223.out)
      have n7_ := Aside0.mk (below_drew1 HB.out)
      clear HO_215000
      clear HO_219000
      clear HO_224000
      clear BK205
      clear BK214
      clear BK218
      clear BK223
      clear HB
      have HO_215000 := n0_
      have HO_219000 := n1_
      have HO_224000 := n2_
      have BK205 := n3_
      have BK214 := n4_
      have BK218 := n5_
      have BK223 := n6_
      have HB := n7_
      clear n0_ n1_ n2_ n3_ n4_ n5_ n6_ n7_
      refine start_ (n := 5) (S := fun w' => w'.cell? ⟨gb218, 0, none⟩ = some (.slice Ao27 t215.length co27) ∧ w'.cell? ⟨gb205, 0, none⟩ = some (.slice A0_0 l0_0.length c0_0)) (ds := []) #[false, false, false, false, false] (by kernel_rfl) rfl rfl ⟨(blk_cell BK218.out 0).trans rfl, (blk_cell BK205.out 0).trans rfl⟩ (fun hHeld => ?_)
      generalize wc.drew = w176 at HO_215000 HO_219000 HO_224000 BK205 BK214 BK218 BK223 HB hHeld ⊢
      refine take_ (i := 0) (N := some 45) (v := ?_) (a' := ?_) #[true, false, false, false, false] rfl rfl (by kernel_rfl) (fun _ _ _ h => h) (Or.inl ⟨by rfl, ?_⟩) hHeld ?_ ?_
      rotate_left
      ·rintro w' ⟨s0, s1⟩
       go_simp
       with_reducible rfl
      rotate_left
      ·simp only [Act.put, List.setIfInBounds_toArray, List.set_cons_zero, List.set_cons_succ, i64_w, i32_w]
       rfl
      refine take_ (i := 1) (N := some 46) (v := ?_) (a' := ?_) #[true, true, false, false, false] rfl rfl (by kernel_rfl) (fun _ _ _ h => h) (Or.inl ⟨by rfl, ?_⟩) hHeld ?_ ?_
      rotate_left
      ·rintro w' ⟨s0, s1⟩
       go_simp
       with_reducible rfl
      rotate_left
      ·simp only [Act.put, List.setIfInBounds_toArray, List.set_cons_zero, List.set_cons_succ, i64_w, i32_w]
       rfl
      refine one_ (i := 2) (N := some 47) #[true, true, true, false, false] rfl rfl (by kernel_rfl) (by decide) (fun K hK => ?_)
      refine goes_ Try.func17 (by kernel_rfl) rfl #[.agg #[.slice A0_0 l0_0.length c0_0]] (by rfl) rfl rfl (by (try simp only [List.map_toArray, List.map_cons, List.map_nil]); first | done | rfl | (simp only [List.length_drop, List.length_take]; rfl)) ?_
      with_reducible refine (laws_toPuzzle.calls kj11 _ _ l0_0 t225 _ ?side1 ?side2 A57.out).mono ?_
      (case side1 => repeat (first | exact (Kd.C_below HR0_0.out HB.out) | (with_reducible refine Kd.C_alloc ?_ _) | (with_reducible refine Kd.C_drewN ?_ _) | (with_reducible refine Kd.C_drew ?_)))
      (case side2 => exact HC0_0.out)
      rintro e w177 ⟨v226, rfl, ho0, hb⟩
      refine ⟨_, rfl, ?_⟩
      have n0_ := Aside0.mk (Kd.R_elder' (rk HO_215000.out) (Kd.R_base ho0) hb)
      have n1_ := Aside0.mk (Kd.R_elder' (rk HO_219000.out) (Kd.R_base ho0) hb)
      have n2_ := Aside0.mk (Kd.R_elder' (rk HO_224000.out) (Kd.R_base ho0) hb)
      have n3_ := Aside0.mk (Kd.R_lower (Kd.R_new' (Kd.R_new' (Kd.R_new' ho0 (Kd.R_lt (rk HO_215000.out))) (Kd.R_lt (rk HO_219000.out))) (Kd.R_lt (rk HO_224000.out))) (below_size (hB HB.out)))
      have n4_ := Aside0.mk (blk_below (g := gb205) (o := .cells #[.slice A0_0 l0_0.length c0_0] 24 (0, 0)) (bk BK205.out) hb)
      have n5_ := Aside0.mk (blk_below (g := gb214) (o := .cells #[.slice Ao21 t210.length co21] 29 (0, 0)) (bk BK214.out) hb)
      have n6_ := Aside0.mk (blk_below (g := gb218) (o := .cells #[.slice Ao27 t215.length co27] 29 (0, 0)) (bk BK218.out) hb)
      have n7_ := Aside0.mk (blk_below (g := gb223) (o := .cells #[.slice Ao33 t219.length co33] 29 (0, 0)) (bk BK223.out) hb)
      have n8_ := Aside0.mk (below_step (hB HB.out) hb)
      clear HO_215000
      clear HO_219000
      clear HO_224000
      clear BK205
      clear BK214
      clear BK218
      clear BK223
      clear HB
      have HO_215000 := n0_
      have HO_219000 := n1_
      have HO_224000 := n2_
      have HO227 := n3_
      have BK205 := n4_
      have BK214 := n5_
      have BK218 := n6_
      have BK223 := n7_
      have HB := n8_
      clear n0_ n1_ n2_ n3_ n4_ n5_ n6_ n7_ n8_
      (try clear hb)
      (try clear hb2)
      (try clear hk)
      (try clear hi)
      (try clear ho0)
      obtain ⟨Ao178, co178, eo178⟩ := Kd.R_slice HO227.out
      (first | subst eo178 | (injection eo178 with f1_ f2_ f3_; have f4_ := f1_.symm; have f5_ := f3_.symm; clear f1_ f2_ f3_; subst f4_; subst f5_))
      refine hK.out _ _ ⟨(blk_cell BK218.out 0).trans rfl, (blk_cell BK205.out 0).trans rfl⟩ (fun hHeld => ?_)
      clear hK K
      refine norm_ (a' := ?_) ?_ ?_
      rotate_left
      ·show Act.put _ (some 47) _ = _
       simp only [Act.put, List.setIfInBounds_toArray, List.set_cons_zero, List.set_cons_succ, i64_w, i32_w]
       rfl
      refine one_ (i := 3) (N := some 48) #[true, true, true, true, false] rfl rfl (by kernel_rfl) (by decide) (fun K hK => ?_)
      refine goes_ Try.func19 (by kernel_rfl) rfl #[.agg #[.slice Ao27 t215.length co27], .agg #[.slice Ao178 t225.length co178]] (by rfl) rfl rfl (by (try simp only [List.map_toArray, List.map_cons, List.map_nil]); first | done | rfl | (simp only [List.length_drop, List.length_take]; rfl)) ?_
      with_reducible refine (laws_eqPuzzle.calls kj11 _ _ t215 _ _ t225 false _ ?side1 ?side2 ?side3 ?side4 A58.out).mono ?_
      (case side1 => repeat (first | exact (Kd.R_reads' HO_219000.out).2.2 | (with_reducible refine Kd.C_alloc ?_ _) | (with_reducible refine Kd.C_drewN ?_ _) | (with_reducible refine Kd.C_drew ?_)))
      (case side2 => exact (Kd.R_reads' HO_219000.out).2.1)
      (case side3 => repeat (first | exact (Kd.R_reads' HO227.out).2.2 | (with_reducible refine Kd.C_alloc ?_ _) | (with_reducible refine Kd.C_drewN ?_ _) | (with_reducible refine Kd.C_drew ?_)))
      (case side4 => exact (Kd.R_reads' HO227.out).2.1)
      rintro e w179 ⟨rfl, hb⟩
      refine ⟨_, rfl, ?_⟩
      have n0_ := Aside0.mk (Kd.R_below (rk HO_215000.out) hb)
      have n1_ := Aside0.mk (Kd.R_below (rk HO_219000.out) hb)
      have n2_ := Aside0.mk (Kd.R_below (rk HO_224000.out) hb)
      have n3_ := Aside0.mk (Kd.R_below (rk HO227.out) hb)
      have n4_ := Aside0.mk (blk_below (g := gb205) (o := .cells #[.slice A0_0 l0_0.length c0_0] 24 (0, 0)) (bk BK205.out) hb)
      have n5_ := Aside0.mk (blk_below (g := gb214) (o := .cells #[.slice Ao21 t210.length co21] 29 (0, 0)) (bk BK214.out) hb)
      have n6_ := Aside0.mk (blk_below (g := gb218) (o := .cells #[.slice Ao27 t215.length co27] 29 (0, 0)) (bk BK218.out) hb)
      have n7_ := Aside0.mk (blk_below (g := gb223) (o := .cells #[.slice Ao33 t219.length co33] 29 (0, 0)) (bk BK223.out) hb)
      have n8_ := Aside0.mk (below_step (hB HB.out) hb)
      clear HO_215000
      clear HO_219000
      clear HO_224000
      clear HO227
      clear BK205
      clear BK214
      clear BK218
      clear BK223
      clear HB
      have HO_215000 := n0_
      have HO_219000 := n1_
      have HO_224000 := n2_
      have HO227 := n3_
      have BK205 := n4_
      have BK214 := n5_
      have BK218 := n6_
      have BK223 := n7_
      have HB := n8_
      clear n0_ n1_ n2_ n3_ n4_ n5_ n6_ n7_ n8_
      (try clear hb)
      (try clear hb2)
      (try clear hk)
      (try clear hi)
      refine hK.out _ _ ⟨(blk_cell BK218.out 0).trans rfl, (blk_cell BK205.out 0).trans rfl⟩ (fun hHeld => ?_)
      clear hK K
      refine norm_ (a' := ?_) ?_ ?_
      rotate_left
      ·show Act.put _ (some 48) _ = _
       simp only [Act.put, List.setIfInBounds_toArray, List.set_cons_zero, List.set_cons_succ, i64_w, i32_w]
       rfl
      refine pure_ (i := 4) (N := some 49) (v := ?_) (a' := ?_) #[true, true, true, true, true] rfl rfl (by kernel_rfl) (fun _ _ _ h => h) (Or.inl ⟨by rfl, ?_⟩) ?_ ?_
      rotate_left
      ·intro w'
       go_simp
       with_reducible rfl
      rotate_left
      ·simp only [Act.put, List.setIfInBounds_toArray, List.set_cons_zero, List.set_cons_succ, i64_w, i32_w]
       rfl
      refine done_ (by kernel_rfl) ?_
      try go_wp2
      go_ret
      exact ⟨by first | rfl | (simp [errW_none, errW_some] <;> rfl) | (simp [*, errW_none, errW_some] <;> rfl), hB HB.out⟩

/-- THE ONE PURE STATEMENT of laws_FnExactDropClue: yours. -/
def laws_FnExactDropClue.Pure : Prop := ∀ (l0_0 : List (S34)) (a1 : Int), l0_0.length ≤ maxLen → (∀ x ∈ l0_0, (Lit.int .i64 x.f0).wf = true ∧ (Lit.int .i64 x.f1).wf = true ∧ (Lit.int .i64 x.f2).wf = true) → (Lit.int .i64 a1).wf = true → ∃ k, laws_FnExactDropClue.f k l0_0 a1 = some true

end Go.Proofs.Ytmfcpebojnikkaa.QFnExactDropClue
