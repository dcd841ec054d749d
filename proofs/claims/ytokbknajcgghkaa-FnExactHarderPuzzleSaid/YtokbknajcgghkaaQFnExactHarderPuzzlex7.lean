-- written by a program of this session, over the form of the kit's print
import Derived.Test.YtokbknajcgghkaaQFnExactHarderPuzzlex0
import Derived.Test.YtokbknajcgghkaaQFnExactHarderPuzzlex1
import Derived.Test.YtokbknajcgghkaaQFnExactHarderPuzzlex2
import Derived.Test.YtokbknajcgghkaaQFnExactHarderPuzzlex3
import Derived.Test.YtokbknajcgghkaaQFnExactHarderPuzzlex5
import Derived.Test.YtokbknajcgghkaaQFnExactHarderPuzzlex6
namespace Go.Proofs.Ytokbknajcgghkaa.QFnExactHarderPuzzle
open Go.RowKit Go.Proofs.YtokbknajcgghkaaV Go.Proofs.YtokbknajcgghkaaW.PrintWords Go.Proofs.YtokbknajcgghkaaW.PrintLast Go.Proofs.YtokbknajcgghkaaW.PrintMore
attribute [local go_sem] max2_int min2_int max_two min_two max_three min_three max_four min_four   -- for this text's walks alone
set_option linter.unusedVariables false
set_option linter.unusedSimpArgs false

/-! ### laws_FnExactHarderPuzzle: function 3 -/
mutual
def laws_FnExactHarderPuzzle.j0 : Nat → Bool → Bool → Bool → List (S100) → List (S43) → List (S43) → List (S43) → Option (Bool)
 | 0, _, _, _, _, _, _, _ => none
 | k + 1, x5, x8, x40, x258000, x267000, x271000, x276000 => if x40 = true then (some false) else ((laws_toPuzzle.f k x258000).bind fun t277 => ((laws_eqPuzzle.f k x271000 t277).bind fun t280 => (if t280 = true then ((laws_markPuzzle.f k x271000 1).bind fun bt281 => (if bt281.1 < 0 then (laws_FnExactHarderPuzzle.j1 k x5 true x258000 x267000 x276000) else ((laws_eqPuzzle.f k x276000 x267000).bind fun t283 => (if t283 = true then (laws_FnExactHarderPuzzle.j1 k x5 (x8 != x5) x258000 x267000 x276000) else (laws_FnExactHarderPuzzle.j1 k x5 true x258000 x267000 x276000))))) else (some false))))
def laws_FnExactHarderPuzzle.j1 : Nat → Bool → Bool → List (S100) → List (S43) → List (S43) → Option (Bool)
 | 0, _, _, _, _, _ => none
 | k + 1, x5, x61, x258000, x267000, x276000 => if x61 = true then (some false) else ((laws_markPuzzle.f k x276000 1).bind fun bt284 => ((laws_heldPuzzle.f k bt284.2 1).bind fun t286 => (if t286 < 0 then (some false) else (if t286 = bt284.1 then ((laws_toPuzzle.f k x258000).bind fun t287 => ((impl_HarderPuzzle.f k t287).bind fun bt290 => ((laws_eqPuzzle.f k bt290.1 x267000).bind fun t295 => (if t295 = true then (laws_FnExactHarderPuzzle.j2 k bt284.1 (bt290.2 != x5) bt284.2) else (laws_FnExactHarderPuzzle.j2 k bt284.1 true bt284.2))))) else (some false)))))
def laws_FnExactHarderPuzzle.j2 : Nat → Int → Bool → List (S43) → Option (Bool)
 | 0, _, _, _ => none
 | k + 1, x10, x87, x276000 => if x87 = true then (some false) else ((laws_heldPuzzle.f k x276000 1).bind fun t296 => (if t296 < 0 then (some false) else (if t296 = x10 then (some true) else (some false))))
end
def laws_FnExactHarderPuzzle.f (k : Nat) (l0_0 : List (S100)) : Option (Bool) := (laws_szPuzzle.f l0_0 1048576).bind fun t258 => (if t258 < 0 then (some true) else ((laws_toPuzzle.f k l0_0).bind fun t259 => ((spec_HarderPuzzle.f k t259).bind fun bt262 => ((laws_toPuzzle.f k l0_0).bind fun t267 => ((impl_HarderPuzzle.f k t267).bind fun bt271 => ((laws_eqPuzzle.f k bt271.1 bt262.1).bind fun t276 => (if t276 = true then (laws_FnExactHarderPuzzle.j0 k bt262.2 bt271.2 (bt271.2 != bt262.2) l0_0 bt262.1 t267 bt271.1) else (laws_FnExactHarderPuzzle.j0 k bt262.2 bt271.2 true l0_0 bt262.1 t267 bt271.1))))))))
theorem laws_FnExactHarderPuzzle.mono_l : ∀ k, (∀ y0 y1 y2 y3 y4 y5 y6, LeO (laws_FnExactHarderPuzzle.j0 k y0 y1 y2 y3 y4 y5 y6) (laws_FnExactHarderPuzzle.j0 (k + 1) y0 y1 y2 y3 y4 y5 y6)) ∧ (∀ y0 y1 y2 y3 y4, LeO (laws_FnExactHarderPuzzle.j1 k y0 y1 y2 y3 y4) (laws_FnExactHarderPuzzle.j1 (k + 1) y0 y1 y2 y3 y4)) ∧ (∀ y0 y1 y2, LeO (laws_FnExactHarderPuzzle.j2 k y0 y1 y2) (laws_FnExactHarderPuzzle.j2 (k + 1) y0 y1 y2))
 | 0 => ⟨fun _ _ _ _ _ _ _ r h => by simp [laws_FnExactHarderPuzzle.j0] at h, fun _ _ _ _ _ r h => by simp [laws_FnExactHarderPuzzle.j1] at h, fun _ _ _ r h => by simp [laws_FnExactHarderPuzzle.j2] at h⟩
 | k + 1 => by
  obtain ⟨ih0, ih1, ih2⟩ := laws_FnExactHarderPuzzle.mono_l k
  refine ⟨?_, ?_, ?_⟩
  ·intro y0 y1 y2 y3 y4 y5 y6
   unfold laws_FnExactHarderPuzzle.j0
   repeat' first
   | (with_reducible exact ih0 _ _ _ _ _ _ _)
   | (with_reducible exact ih1 _ _ _ _ _)
   | (with_reducible exact ih2 _ _ _)
   | (with_reducible exact impl_HarderPuzzle.mono _ _)
   | (with_reducible exact laws_eqPuzzle.mono _ _ _)
   | (with_reducible exact laws_heldPuzzle.mono _ _ _)
   | (with_reducible exact laws_markPuzzle.mono _ _ _)
   | (with_reducible exact laws_toPuzzle.mono _ _)
   | (with_reducible exact spec_HarderPuzzle.mono _ _)
   | (with_reducible exact LeO.refl _)
   | (with_reducible exact LeO.none _)
   | (with_reducible refine LeO.ite ?_ ?_)
   | (with_reducible refine LeO.bind ?_ (fun _ => ?_))
   | exact ih0 _ _ _ _ _ _ _
   | exact ih1 _ _ _ _ _
   | exact ih2 _ _ _
   | exact impl_HarderPuzzle.mono _ _
   | exact laws_eqPuzzle.mono _ _ _
   | exact laws_heldPuzzle.mono _ _ _
   | exact laws_markPuzzle.mono _ _ _
   | exact laws_toPuzzle.mono _ _
   | exact spec_HarderPuzzle.mono _ _
   | exact LeO.none _
   | refine LeO.ite ?_ ?_
   | refine LeO.bind ?_ (fun _ => ?_)
  ·intro y0 y1 y2 y3 y4
   unfold laws_FnExactHarderPuzzle.j1
   repeat' first
   | (with_reducible exact ih0 _ _ _ _ _ _ _)
   | (with_reducible exact ih1 _ _ _ _ _)
   | (with_reducible exact ih2 _ _ _)
   | (with_reducible exact impl_HarderPuzzle.mono _ _)
   | (with_reducible exact laws_eqPuzzle.mono _ _ _)
   | (with_reducible exact laws_heldPuzzle.mono _ _ _)
   | (with_reducible exact laws_markPuzzle.mono _ _ _)
   | (with_reducible exact laws_toPuzzle.mono _ _)
   | (with_reducible exact spec_HarderPuzzle.mono _ _)
   | (with_reducible exact LeO.refl _)
   | (with_reducible exact LeO.none _)
   | (with_reducible refine LeO.ite ?_ ?_)
   | (with_reducible refine LeO.bind ?_ (fun _ => ?_))
   | exact ih0 _ _ _ _ _ _ _
   | exact ih1 _ _ _ _ _
   | exact ih2 _ _ _
   | exact impl_HarderPuzzle.mono _ _
   | exact laws_eqPuzzle.mono _ _ _
   | exact laws_heldPuzzle.mono _ _ _
   | exact laws_markPuzzle.mono _ _ _
   | exact laws_toPuzzle.mono _ _
   | exact spec_HarderPuzzle.mono _ _
   | exact LeO.none _
   | refine LeO.ite ?_ ?_
   | refine LeO.bind ?_ (fun _ => ?_)
  ·intro y0 y1 y2
   unfold laws_FnExactHarderPuzzle.j2
   repeat' first
   | (with_reducible exact ih0 _ _ _ _ _ _ _)
   | (with_reducible exact ih1 _ _ _ _ _)
   | (with_reducible exact ih2 _ _ _)
   | (with_reducible exact impl_HarderPuzzle.mono _ _)
   | (with_reducible exact laws_eqPuzzle.mono _ _ _)
   | (with_reducible exact laws_heldPuzzle.mono _ _ _)
   | (with_reducible exact laws_markPuzzle.mono _ _ _)
   | (with_reducible exact laws_toPuzzle.mono _ _)
   | (with_reducible exact spec_HarderPuzzle.mono _ _)
   | (with_reducible exact LeO.refl _)
   | (with_reducible exact LeO.none _)
   | (with_reducible refine LeO.ite ?_ ?_)
   | (with_reducible refine LeO.bind ?_ (fun _ => ?_))
   | exact ih0 _ _ _ _ _ _ _
   | exact ih1 _ _ _ _ _
   | exact ih2 _ _ _
   | exact impl_HarderPuzzle.mono _ _
   | exact laws_eqPuzzle.mono _ _ _
   | exact laws_heldPuzzle.mono _ _ _
   | exact laws_markPuzzle.mono _ _ _
   | exact laws_toPuzzle.mono _ _
   | exact spec_HarderPuzzle.mono _ _
   | exact LeO.none _
   | refine LeO.ite ?_ ?_
   | refine LeO.bind ?_ (fun _ => ?_)
theorem laws_FnExactHarderPuzzle.mono : ∀ a0 k, LeO (laws_FnExactHarderPuzzle.f k a0) (laws_FnExactHarderPuzzle.f (k + 1) a0) := by
 intro a0 k
 obtain ⟨ih0, ih1, ih2⟩ := laws_FnExactHarderPuzzle.mono_l k
 unfold laws_FnExactHarderPuzzle.f
 repeat' first
   | (with_reducible exact ih0 _ _ _ _ _ _ _)
   | (with_reducible exact ih1 _ _ _ _ _)
   | (with_reducible exact ih2 _ _ _)
   | (with_reducible exact impl_HarderPuzzle.mono _ _)
   | (with_reducible exact laws_eqPuzzle.mono _ _ _)
   | (with_reducible exact laws_heldPuzzle.mono _ _ _)
   | (with_reducible exact laws_markPuzzle.mono _ _ _)
   | (with_reducible exact laws_toPuzzle.mono _ _)
   | (with_reducible exact spec_HarderPuzzle.mono _ _)
   | (with_reducible exact LeO.refl _)
   | (with_reducible exact LeO.none _)
   | (with_reducible refine LeO.ite ?_ ?_)
   | (with_reducible refine LeO.bind ?_ (fun _ => ?_))
   | exact ih0 _ _ _ _ _ _ _
   | exact ih1 _ _ _ _ _
   | exact ih2 _ _ _
   | exact impl_HarderPuzzle.mono _ _
   | exact laws_eqPuzzle.mono _ _ _
   | exact laws_heldPuzzle.mono _ _ _
   | exact laws_markPuzzle.mono _ _ _
   | exact laws_toPuzzle.mono _ _
   | exact spec_HarderPuzzle.mono _ _
   | exact LeO.none _
   | refine LeO.ite ?_ ?_
   | refine LeO.bind ?_ (fun _ => ?_)
set_option maxHeartbeats 8000000 in
set_option maxRecDepth 100000 in
theorem laws_FnExactHarderPuzzle.calls (k : Nat) (A0_0 : Option Addr) (c0_0 : Nat) (l0_0 : List (S100)) (r : Bool) (w : World) (hr0_0 : Kd.C k100 w A0_0 l0_0.length l0_0) (hc0_0 : l0_0.length ≤ c0_0) (h : laws_FnExactHarderPuzzle.f k l0_0 = some r) :
  Calls Try.prog 3 #[.agg #[.slice A0_0 l0_0.length c0_0]] w fun e w' => e = .returned (.bool r) ∧ Below w.heap.size w w' := by
 have hu24 := Try.underlying24
 have hu28 := Try.underlying28
 have HR0_0 := Aside0.mk hr0_0
 have HC0_0 := Aside0.mk hc0_0
 clear hr0_0 hc0_0
 have HB := Aside0.mk (Below.refl w.heap.size w)
 have H : ((laws_szPuzzle.f l0_0 1048576).bind fun t258 => (if t258 < 0 then (some true) else ((laws_toPuzzle.f k l0_0).bind fun t259 => ((spec_HarderPuzzle.f k t259).bind fun bt262 => ((laws_toPuzzle.f k l0_0).bind fun t267 => ((impl_HarderPuzzle.f k t267).bind fun bt271 => ((laws_eqPuzzle.f k bt271.1 bt262.1).bind fun t276 => (if t276 = true then (laws_FnExactHarderPuzzle.j0 k bt262.2 bt271.2 (bt271.2 != bt262.2) l0_0 bt262.1 t267 bt271.1) else (laws_FnExactHarderPuzzle.j0 k bt262.2 bt271.2 true l0_0 bt262.1 t267 bt271.1))))))))) = some r := h
 clear h
 replace H := Option.bind_eq_some_iff.mp H
 obtain ⟨t258, A20, H⟩ := H
 replace H : (if t258 < 0 then (some true) else ((laws_toPuzzle.f k l0_0).bind fun t259 => ((spec_HarderPuzzle.f k t259).bind fun bt262 => ((laws_toPuzzle.f k l0_0).bind fun t267 => ((impl_HarderPuzzle.f k t267).bind fun bt271 => ((laws_eqPuzzle.f k bt271.1 bt262.1).bind fun t276 => (if t276 = true then (laws_FnExactHarderPuzzle.j0 k bt262.2 bt271.2 (bt271.2 != bt262.2) l0_0 bt262.1 t267 bt271.1) else (laws_FnExactHarderPuzzle.j0 k bt262.2 bt271.2 true l0_0 bt262.1 t267 bt271.1)))))))) = some r := H
 have A2 := Aside0.mk A20
 clear A20
 by_cases c3 : t258 < 0
 ·rw [if_pos c3] at H
  have c3b0 : decide (t258 < 0) = true := decide_eq_true c3
  clear c3
  obtain rfl := Option.some.inj H
  go_enter Try.func3, Try.ntmps3
  go_wp2_with (first | ((with_reducible refine gate_dst (N := 1) rfl ?_); refine box_event ?hg (N := 1) ?hd (cs := #[.slice A0_0 l0_0.length c0_0]) (t := 24) ?hr ?_; (case hd => rfl); (case hg => rfl); (case hr => first | (go_simp; done) | (go_simp; rfl)); intro gb257 hg w4 hbox hb; have n0_ := Aside0.mk (below_step (hB HB.out) hb); have n1_ := Aside0.mk (hbox); have n2_ := Aside0.mk ((by rw [hg]; exact (below_size (hB HB.out)) : w.heap.size ≤ gb257)); have n3_ := Aside0.mk ((by rw [hg]; exact (below_size (hB HB.out)) : w.heap.size ≤ gb257)); clear HB; have HB := n0_; have BK257 := n1_; have GW257 := n2_; have GE257 := n3_; clear n0_ n1_ n2_ n3_; clear hb hbox hg; have hcz5_0 : w4.cell? ⟨gb257, 0, none⟩ = some (.slice A0_0 l0_0.length c0_0) := (blk_cell BK257.out 0).trans rfl; have hfz5_0 := blk_frozen BK257.out 0) | ((with_reducible refine gate_callee (f := 7) rfl ?_); refine goesL_ (some 16) rfl rfl Try.func7 (by kernel_rfl) rfl #[.agg #[.slice A0_0 l0_0.length c0_0], .int .i64 1048576] rfl (by (try simp only [List.map_toArray, List.map_cons, List.map_nil]); first | done | rfl | (simp only [List.length_drop, List.length_take]; rfl)) ?_; (with_reducible refine (laws_szPuzzle.calls _ _ l0_0 1048576 t258 _ ?side1 ?side2 A2.out).mono ?_); (case side1 => repeat (first | exact (Kd.C_below HR0_0.out HB.out) | (with_reducible refine Kd.C_alloc ?_ _) | (with_reducible refine Kd.C_drewN ?_ _) | (with_reducible refine Kd.C_drew ?_))); (case side2 => exact HC0_0.out); rintro e w6 ⟨rfl, hb⟩; refine ⟨_, rfl, ?_⟩; have n0_ := Aside0.mk (blk_below (g := gb257) (o := .cells #[.slice A0_0 l0_0.length c0_0] 24 (0, 0)) (bk BK257.out) hb); have n1_ := Aside0.mk (below_step (hB HB.out) hb); clear BK257; clear HB; have BK257 := n0_; have HB := n1_; clear n0_ n1_; (try clear hb); (try clear hb2); (try clear hk); (try clear hi)))
  go_ret
  exact ⟨by first | rfl | (simp [errW_none, errW_some] <;> rfl) | (simp [*, errW_none, errW_some] <;> rfl), hB HB.out⟩
 ·rw [if_neg c3] at H
  have c3b0 : decide (t258 < 0) = false := decide_eq_false c3
  clear c3
  replace H := Option.bind_eq_some_iff.mp H
  obtain ⟨t259, A70, H⟩ := H
  replace H : ((spec_HarderPuzzle.f k t259).bind fun bt262 => ((laws_toPuzzle.f k l0_0).bind fun t267 => ((impl_HarderPuzzle.f k t267).bind fun bt271 => ((laws_eqPuzzle.f k bt271.1 bt262.1).bind fun t276 => (if t276 = true then (laws_FnExactHarderPuzzle.j0 k bt262.2 bt271.2 (bt271.2 != bt262.2) l0_0 bt262.1 t267 bt271.1) else (laws_FnExactHarderPuzzle.j0 k bt262.2 bt271.2 true l0_0 bt262.1 t267 bt271.1)))))) = some r := H
  have A7 := Aside0.mk A70
  clear A70
  replace H := Option.bind_eq_some_iff.mp H
  obtain ⟨⟨t262, t265⟩, A80, H⟩ := H
  replace H : ((laws_toPuzzle.f k l0_0).bind fun t267 => ((impl_HarderPuzzle.f k t267).bind fun bt271 => ((laws_eqPuzzle.f k bt271.1 t262).bind fun t276 => (if t276 = true then (laws_FnExactHarderPuzzle.j0 k t265 bt271.2 (bt271.2 != t265) l0_0 t262 t267 bt271.1) else (laws_FnExactHarderPuzzle.j0 k t265 bt271.2 true l0_0 t262 t267 bt271.1))))) = some r := H
  have A8 := Aside0.mk A80
  clear A80
  replace H := Option.bind_eq_some_iff.mp H
  obtain ⟨t267, A90, H⟩ := H
  replace H : ((impl_HarderPuzzle.f k t267).bind fun bt271 => ((laws_eqPuzzle.f k bt271.1 t262).bind fun t276 => (if t276 = true then (laws_FnExactHarderPuzzle.j0 k t265 bt271.2 (bt271.2 != t265) l0_0 t262 t267 bt271.1) else (laws_FnExactHarderPuzzle.j0 k t265 bt271.2 true l0_0 t262 t267 bt271.1)))) = some r := H
  have A9 := Aside0.mk A90
  clear A90
  replace H := Option.bind_eq_some_iff.mp H
  obtain ⟨⟨t271, t274⟩, A100, H⟩ := H
  replace H : ((laws_eqPuzzle.f k t271 t262).bind fun t276 => (if t276 = true then (laws_FnExactHarderPuzzle.j0 k t265 t274 (t274 != t265) l0_0 t262 t267 t271) else (laws_FnExactHarderPuzzle.j0 k t265 t274 true l0_0 t262 t267 t271))) = some r := H
  have A10 := Aside0.mk A100
  clear A100
  have HC11 := Aside0.mk H
  clear H
  go_enter Try.func3, Try.ntmps3
  go_upto_region 8 with (first | ((with_reducible refine gate_dst (N := 1) rfl ?_); refine box_event ?hg (N := 1) ?hd (cs := #[.slice A0_0 l0_0.length c0_0]) (t := 24) ?hr ?_; (case hd => rfl); (case hg => rfl); (case hr => first | (go_simp; done) | (go_simp; rfl)); intro gb257 hg w12 hbox hb; have n0_ := Aside0.mk (below_step (hB HB.out) hb); have n1_ := Aside0.mk (hbox); have n2_ := Aside0.mk ((by rw [hg]; exact (below_size (hB HB.out)) : w.heap.size ≤ gb257)); have n3_ := Aside0.mk ((by rw [hg]; exact (below_size (hB HB.out)) : w.heap.size ≤ gb257)); clear HB; have HB := n0_; have BK257 := n1_; have GW257 := n2_; have GE257 := n3_; clear n0_ n1_ n2_ n3_; clear hb hbox hg; have hcz13_0 : w12.cell? ⟨gb257, 0, none⟩ = some (.slice A0_0 l0_0.length c0_0) := (blk_cell BK257.out 0).trans rfl; have hfz13_0 := blk_frozen BK257.out 0) | ((with_reducible refine gate_callee (f := 7) rfl ?_); refine goesL_ (some 16) rfl rfl Try.func7 (by kernel_rfl) rfl #[.agg #[.slice A0_0 l0_0.length c0_0], .int .i64 1048576] rfl (by (try simp only [List.map_toArray, List.map_cons, List.map_nil]); first | done | rfl | (simp only [List.length_drop, List.length_take]; rfl)) ?_; (with_reducible refine (laws_szPuzzle.calls _ _ l0_0 1048576 t258 _ ?side1 ?side2 A2.out).mono ?_); (case side1 => repeat (first | exact (Kd.C_below HR0_0.out HB.out) | (with_reducible refine Kd.C_alloc ?_ _) | (with_reducible refine Kd.C_drewN ?_ _) | (with_reducible refine Kd.C_drew ?_))); (case side2 => exact HC0_0.out); rintro e w14 ⟨rfl, hb⟩; refine ⟨_, rfl, ?_⟩; have n0_ := Aside0.mk (blk_below (g := gb257) (o := .cells #[.slice A0_0 l0_0.length c0_0] 24 (0, 0)) (bk BK257.out) hb); have n1_ := Aside0.mk (below_step (hB HB.out) hb); clear BK257; clear HB; have BK257 := n0_; have HB := n1_; clear n0_ n1_; (try clear hb); (try clear hb2); (try clear hk); (try clear hi); have hcz15_0 : w14.cell? ⟨gb257, 0, none⟩ = some (.slice A0_0 l0_0.length c0_0) := (blk_cell BK257.out 0).trans rfl; have hfz15_0 := blk_frozen BK257.out 0) | ((with_reducible refine gate_callee (f := 9) rfl ?_); refine goesL_ (some 21) rfl rfl Try.func9 (by kernel_rfl) rfl #[.agg #[.slice A0_0 l0_0.length c0_0]] rfl (by (try simp only [List.map_toArray, List.map_cons, List.map_nil]); first | done | rfl | (simp only [List.length_drop, List.length_take]; rfl)) ?_; (with_reducible refine (laws_toPuzzle.calls k _ _ l0_0 t259 _ ?side1 ?side2 A7.out).mono ?_); (case side1 => repeat (first | exact (Kd.C_below HR0_0.out HB.out) | (with_reducible refine Kd.C_alloc ?_ _) | (with_reducible refine Kd.C_drewN ?_ _) | (with_reducible refine Kd.C_drew ?_))); (case side2 => exact HC0_0.out); rintro e w16 ⟨v260, rfl, ho0, hb⟩; refine ⟨_, rfl, ?_⟩; have n0_ := Aside0.mk (Kd.R_lower ho0 (below_size (hB HB.out))); have n1_ := Aside0.mk (blk_below (g := gb257) (o := .cells #[.slice A0_0 l0_0.length c0_0] 24 (0, 0)) (bk BK257.out) hb); have n2_ := Aside0.mk (below_step (hB HB.out) hb); clear BK257; clear HB; have HO261 := n0_; have BK257 := n1_; have HB := n2_; clear n0_ n1_ n2_; (try clear hb); (try clear hb2); (try clear hk); (try clear hi); (try clear ho0); obtain ⟨Ao17, co17, eo17⟩ := Kd.R_slice HO261.out; subst eo17) | ((with_reducible refine gate_callee (f := 8) rfl ?_); refine goesL_ (some 22) rfl rfl Try.func8 (by kernel_rfl) rfl #[.agg #[.slice Ao17 t259.length co17]] rfl (by (try simp only [List.map_toArray, List.map_cons, List.map_nil]); first | done | rfl | (simp only [List.length_drop, List.length_take]; rfl)) ?_; (with_reducible refine (spec_HarderPuzzle.calls k _ _ t259 t262 t265 _ ?side1 ?side2 A8.out).mono ?_); (case side1 => repeat (first | exact (Kd.R_reads' HO261.out).2.2 | (with_reducible refine Kd.C_alloc ?_ _) | (with_reducible refine Kd.C_drewN ?_ _) | (with_reducible refine Kd.C_drew ?_))); (case side2 => exact (Kd.R_reads' HO261.out).2.1); rintro e w18 ⟨v263, rfl, ho0, hb⟩; refine ⟨_, rfl, ?_⟩; have n0_ := Aside0.mk (Kd.R_elder' (rk HO261.out) (Kd.R_base ho0) hb); have n1_ := Aside0.mk (Kd.R_lower (Kd.R_new' ho0 (Kd.R_lt (rk HO261.out))) (below_size (hB HB.out))); have n2_ := Aside0.mk (blk_below (g := gb257) (o := .cells #[.slice A0_0 l0_0.length c0_0] 24 (0, 0)) (bk BK257.out) hb); have n3_ := Aside0.mk (below_step (hB HB.out) hb); clear HO261; clear BK257; clear HB; have HO261 := n0_; have HO264 := n1_; have BK257 := n2_; have HB := n3_; clear n0_ n1_ n2_ n3_; (try clear hb); (try clear hb2); (try clear hk); (try clear hi); (try clear ho0)) | ((with_reducible refine gate_dst (N := 4) rfl ?_); refine box_event ?hg (N := 4) ?hd (cs := #[.slice none 0 0]) (t := 28) ?hr ?_; (case hd => rfl); (case hg => rfl); (case hr => first | (go_simp; done) | (go_simp; rfl)); intro gb266 hg w19 hbox hb; have n0_ := Aside0.mk (Kd.R_below (rk HO261.out) hb); have n1_ := Aside0.mk (Kd.R_below (rk HO264.out) hb); have n2_ := Aside0.mk (blk_below (g := gb257) (o := .cells #[.slice A0_0 l0_0.length c0_0] 24 (0, 0)) (bk BK257.out) hb); have n3_ := Aside0.mk (below_step (hB HB.out) hb); have n4_ := Aside0.mk (hbox); have n5_ := Aside0.mk ((by rw [hg]; exact (below_size (hB HB.out)) : w.heap.size ≤ gb266)); have n6_ := Aside0.mk ((by rw [hg]; exact (below_size (hB HB.out)) : w.heap.size ≤ gb266)); have n7_ := Aside0.mk ((by rw [hg]; exact Nat.ne_of_lt (blk_lt (g := gb257) (o := .cells #[.slice A0_0 l0_0.length c0_0] 24 (0, 0)) (bk BK257.out)) : gb257 ≠ gb266)); have n8_ := Aside0.mk ((by rw [hg]; exact Nat.ne_of_gt (blk_lt (g := gb257) (o := .cells #[.slice A0_0 l0_0.length c0_0] 24 (0, 0)) (bk BK257.out)) : gb266 ≠ gb257)); clear HO261; clear HO264; clear BK257; clear HB; have HO261 := n0_; have HO264 := n1_; have BK257 := n2_; have HB := n3_; have BK266 := n4_; have GW266 := n5_; have GE266 := n6_; have NB257_266 := n7_; have NB266_257 := n8_; clear n0_ n1_ n2_ n3_ n4_ n5_ n6_ n7_ n8_; clear hb hbox hg; obtain ⟨Ao20, co20, eo20⟩ := Kd.R_slice HO264.out; subst eo20; have hnb21 := NB266_257.out; have hnc21 := NB257_266.out; have hcz22_0 : w19.cell? ⟨gb266, 0, none⟩ = some (.slice none 0 0) := (blk_cell BK266.out 0).trans rfl; have hfz22_0 := blk_frozen BK266.out 0; have hcz23_0 : w19.cell? ⟨gb257, 0, none⟩ = some (.slice A0_0 l0_0.length c0_0) := (blk_cell BK257.out 0).trans rfl; have hfz23_0 := blk_frozen BK257.out 0) | ((with_reducible refine gate_callee (f := 9) rfl ?_); refine goesL_ (some 26) rfl rfl Try.func9 (by kernel_rfl) rfl #[.agg #[.slice A0_0 l0_0.length c0_0]] rfl (by (try simp only [List.map_toArray, List.map_cons, List.map_nil]); first | done | rfl | (simp only [List.length_drop, List.length_take]; rfl)) ?_; (with_reducible refine (laws_toPuzzle.calls k _ _ l0_0 t267 _ ?side1 ?side2 A9.out).mono ?_); (case side1 => exact Kd.C_below HR0_0.out (hB HB.out)); (case side2 => exact HC0_0.out); rintro e w24 ⟨v268, rfl, ho0, hb⟩; refine ⟨_, rfl, ?_⟩; have n0_ := Aside0.mk (Kd.R_elder' (rk (Kd.R_mono (Kd.R_far (p := ⟨gb266, 0, none⟩) (Kd.R_types HO261.out BK266.out (by decide)) (fun _ hk => hk.2) (.slice Ao20 t262.length co20)) (fun _ h_ => h_.1))) (Kd.R_base ho0) hb); have n1_ := Aside0.mk (Kd.R_elder' (rk (Kd.R_mono (Kd.R_far (p := ⟨gb266, 0, none⟩) (Kd.R_types HO264.out BK266.out (by decide)) (fun _ hk => hk.2) (.slice Ao20 t262.length co20)) (fun _ h_ => h_.1))) (Kd.R_base ho0) hb); have n2_ := Aside0.mk (Kd.R_lower (Kd.R_new' (Kd.R_new' ho0 (Kd.R_lt (rk (Kd.R_mono (Kd.R_far (p := ⟨gb266, 0, none⟩) (Kd.R_types HO261.out BK266.out (by decide)) (fun _ hk => hk.2) (.slice Ao20 t262.length co20)) (fun _ h_ => h_.1))))) (Kd.R_lt (rk (Kd.R_mono (Kd.R_far (p := ⟨gb266, 0, none⟩) (Kd.R_types HO264.out BK266.out (by decide)) (fun _ hk => hk.2) (.slice Ao20 t262.length co20)) (fun _ h_ => h_.1))))) (below_size (hB HB.out))); have n3_ := Aside0.mk (blk_below (g := gb257) (o := .cells #[.slice A0_0 l0_0.length c0_0] 24 (0, 0)) (by (with_reducible repeat (first | refine blk_drewN ?_ _ | refine blk_drew ?_ | refine blk_alloc ?_ _)); refine blk_far ?_ NB257_266.out _; (with_reducible repeat (first | refine blk_drewN ?_ _ | refine blk_drew ?_ | refine blk_alloc ?_ _)); exact BK257.out) hb); have n4_ := Aside0.mk (blk_below (g := gb266) (o := .cells #[.slice Ao20 t262.length co20] 28 (0, 0)) (by (with_reducible repeat (first | refine blk_drewN ?_ _ | refine blk_drew ?_ | refine blk_alloc ?_ _)); refine blk_put (cs := #[.slice none 0 0]) ?_ 0 _ rfl; (with_reducible repeat (first | refine blk_drewN ?_ _ | refine blk_drew ?_ | refine blk_alloc ?_ _)); exact BK266.out) hb); have n5_ := Aside0.mk (below_step (hB HB.out) hb); clear HO261; clear HO264; clear BK257; clear BK266; clear HB; have HO261 := n0_; have HO264 := n1_; have HO269 := n2_; have BK257 := n3_; have BK266 := n4_; have HB := n5_; clear n0_ n1_ n2_ n3_ n4_ n5_; (try clear hb); (try clear hb2); (try clear hk); (try clear hi); (try clear ho0)) | ((with_reducible refine gate_dst (N := 6) rfl ?_); refine box_event ?hg (N := 6) ?hd (cs := #[.slice none 0 0]) (t := 28) ?hr ?_; (case hd => rfl); (case hg => rfl); (case hr => first | (go_simp; done) | (go_simp; rfl)); intro gb270 hg w25 hbox hb; have n0_ := Aside0.mk (Kd.R_below (rk HO261.out) hb); have n1_ := Aside0.mk (Kd.R_below (rk HO264.out) hb); have n2_ := Aside0.mk (Kd.R_below (rk HO269.out) hb); have n3_ := Aside0.mk (blk_below (g := gb257) (o := .cells #[.slice A0_0 l0_0.length c0_0] 24 (0, 0)) (bk BK257.out) hb); have n4_ := Aside0.mk (blk_below (g := gb266) (o := .cells #[.slice Ao20 t262.length co20] 28 (0, 0)) (bk BK266.out) hb); have n5_ := Aside0.mk (below_step (hB HB.out) hb); have n6_ := Aside0.mk (hbox); have n7_ := Aside0.mk ((by rw [hg]; exact (below_size (hB HB.out)) : w.heap.size ≤ gb270)); have n8_ := Aside0.mk ((by rw [hg]; exact (below_size (hB HB.out)) : w.heap.size ≤ gb270)); have n9_ := Aside0.mk ((by rw [hg]; exact Nat.ne_of_lt (blk_lt (g := gb257) (o := .cells #[.slice A0_0 l0_0.length c0_0] 24 (0, 0)) (bk BK257.out)) : gb257 ≠ gb270)); have n10_ := Aside0.mk ((by rw [hg]; exact Nat.ne_of_gt (blk_lt (g := gb257) (o := .cells #[.slice A0_0 l0_0.length c0_0] 24 (0, 0)) (bk BK257.out)) : gb270 ≠ gb257)); have n11_ := Aside0.mk ((by rw [hg]; exact Nat.ne_of_lt (blk_lt (g := gb266) (o := .cells #[.slice Ao20 t262.length co20] 28 (0, 0)) (bk BK266.out)) : gb266 ≠ gb270)); have n12_ := Aside0.mk ((by rw [hg]; exact Nat.ne_of_gt (blk_lt (g := gb266) (o := .cells #[.slice Ao20 t262.length co20] 28 (0, 0)) (bk BK266.out)) : gb270 ≠ gb266)); clear HO261; clear HO264; clear HO269; clear BK257; clear BK266; clear HB; have HO261 := n0_; have HO264 := n1_; have HO269 := n2_; have BK257 := n3_; have BK266 := n4_; have HB := n5_; have BK270 := n6_; have GW270 := n7_; have GE270 := n8_; have NB257_270 := n9_; have NB270_257 := n10_; have NB266_270 := n11_; have NB270_266 := n12_; clear n0_ n1_ n2_ n3_ n4_ n5_ n6_ n7_ n8_ n9_ n10_ n11_ n12_; clear hb hbox hg; obtain ⟨Ao26, co26, eo26⟩ := Kd.R_slice HO269.out; subst eo26; have hnb27 := NB270_257.out; have hnc27 := NB257_270.out; have hnb28 := NB270_266.out; have hnc28 := NB266_270.out; have hcz29_0 : w25.cell? ⟨gb270, 0, none⟩ = some (.slice none 0 0) := (blk_cell BK270.out 0).trans rfl; have hfz29_0 := blk_frozen BK270.out 0) | ((with_reducible refine gate_callee (f := 10) rfl ?_); refine goesL_ (some 29) rfl rfl Try.func10 (by kernel_rfl) rfl #[.agg #[.slice Ao26 t267.length co26]] rfl (by (try simp only [List.map_toArray, List.map_cons, List.map_nil]); first | done | rfl | (simp only [List.length_drop, List.length_take]; rfl)) ?_; (with_reducible refine (impl_HarderPuzzle.calls k _ _ t267 t271 t274 _ ?side1 ?side2 A10.out).mono ?_); (case side1 => refine (Kd.R_reads' (e := 43) (base := w.heap.size) (ok := fun k_ => ((True ∧ some k_ ≠ (.slice Ao17 t259.length co17 : Value).ownBlock) ∧ some k_ ≠ (.slice Ao20 t262.length co20 : Value).ownBlock)) (n := t267.length) (c := co26) ?_).2.2; exact (rk (Kd.R_mono (Kd.R_far (p := ⟨gb270, 0, none⟩) (Kd.R_types HO269.out BK270.out (by decide)) (fun _ hk => hk.2) (.slice Ao26 t267.length co26)) (fun _ h_ => h_.1)))); (case side2 => exact (Kd.R_reads' HO269.out).2.1); rintro e w30 ⟨v272, rfl, ho0, hb⟩; refine ⟨_, rfl, ?_⟩; have n0_ := Aside0.mk (Kd.R_elder' (rk (Kd.R_mono (Kd.R_far (p := ⟨gb270, 0, none⟩) (Kd.R_types HO261.out BK270.out (by decide)) (fun _ hk => hk.2) (.slice Ao26 t267.length co26)) (fun _ h_ => h_.1))) (Kd.R_base ho0) hb); have n1_ := Aside0.mk (Kd.R_elder' (rk (Kd.R_mono (Kd.R_far (p := ⟨gb270, 0, none⟩) (Kd.R_types HO264.out BK270.out (by decide)) (fun _ hk => hk.2) (.slice Ao26 t267.length co26)) (fun _ h_ => h_.1))) (Kd.R_base ho0) hb); have n2_ := Aside0.mk (Kd.R_elder' (rk (Kd.R_mono (Kd.R_far (p := ⟨gb270, 0, none⟩) (Kd.R_types HO269.out BK270.out (by decide)) (fun _ hk => hk.2) (.slice Ao26 t267.length co26)) (fun _ h_ => h_.1))) (Kd.R_base ho0) hb); have n3_ := Aside0.mk (Kd.R_lower (Kd.R_new' (Kd.R_new' (Kd.R_new' ho0 (Kd.R_lt (rk (Kd.R_mono (Kd.R_far (p := ⟨gb270, 0, none⟩) (Kd.R_types HO261.out BK270.out (by decide)) (fun _ hk => hk.2) (.slice Ao26 t267.length co26)) (fun _ h_ => h_.1))))) (Kd.R_lt (rk (Kd.R_mono (Kd.R_far (p := ⟨gb270, 0, none⟩) (Kd.R_types HO264.out BK270.out (by decide)) (fun _ hk => hk.2) (.slice Ao26 t267.length co26)) (fun _ h_ => h_.1))))) (Kd.R_lt (rk (Kd.R_mono (Kd.R_far (p := ⟨gb270, 0, none⟩) (Kd.R_types HO269.out BK270.out (by decide)) (fun _ hk => hk.2) (.slice Ao26 t267.length co26)) (fun _ h_ => h_.1))))) (below_size (hB HB.out))); have n4_ := Aside0.mk (blk_below (g := gb257) (o := .cells #[.slice A0_0 l0_0.length c0_0] 24 (0, 0)) (by (with_reducible repeat (first | refine blk_drewN ?_ _ | refine blk_drew ?_ | refine blk_alloc ?_ _)); refine blk_far ?_ NB257_270.out _; (with_reducible repeat (first | refine blk_drewN ?_ _ | refine blk_drew ?_ | refine blk_alloc ?_ _)); exact BK257.out) hb); have n5_ := Aside0.mk (blk_below (g := gb266) (o := .cells #[.slice Ao20 t262.length co20] 28 (0, 0)) (by (with_reducible repeat (first | refine blk_drewN ?_ _ | refine blk_drew ?_ | refine blk_alloc ?_ _)); refine blk_far ?_ NB266_270.out _; (with_reducible repeat (first | refine blk_drewN ?_ _ | refine blk_drew ?_ | refine blk_alloc ?_ _)); exact BK266.out) hb); have n6_ := Aside0.mk (blk_below (g := gb270) (o := .cells #[.slice Ao26 t267.length co26] 28 (0, 0)) (by (with_reducible repeat (first | refine blk_drewN ?_ _ | refine blk_drew ?_ | refine blk_alloc ?_ _)); refine blk_put (cs := #[.slice none 0 0]) ?_ 0 _ rfl; (with_reducible repeat (first | refine blk_drewN ?_ _ | refine blk_drew ?_ | refine blk_alloc ?_ _)); exact BK270.out) hb); have n7_ := Aside0.mk (below_step (hB HB.out) hb); clear HO261; clear HO264; clear HO269; clear BK257; clear BK266; clear BK270; clear HB; have HO261 := n0_; have HO264 := n1_; have HO269 := n2_; have HO273 := n3_; have BK257 := n4_; have BK266 := n5_; have BK270 := n6_; have HB := n7_; clear n0_ n1_ n2_ n3_ n4_ n5_ n6_ n7_; (try clear hb); (try clear hb2); (try clear hk); (try clear hi); (try clear ho0)) | ((with_reducible refine gate_dst (N := 7) rfl ?_); refine box_event ?hg (N := 7) ?hd (cs := #[.slice none 0 0]) (t := 28) ?hr ?_; (case hd => rfl); (case hg => rfl); (case hr => first | (go_simp; done) | (go_simp; rfl)); intro gb275 hg w31 hbox hb; have n0_ := Aside0.mk (Kd.R_below (rk HO261.out) hb); have n1_ := Aside0.mk (Kd.R_below (rk HO264.out) hb); have n2_ := Aside0.mk (Kd.R_below (rk HO269.out) hb); have n3_ := Aside0.mk (Kd.R_below (rk HO273.out) hb); have n4_ := Aside0.mk (blk_below (g := gb257) (o := .cells #[.slice A0_0 l0_0.length c0_0] 24 (0, 0)) (bk BK257.out) hb); have n5_ := Aside0.mk (blk_below (g := gb266) (o := .cells #[.slice Ao20 t262.length co20] 28 (0, 0)) (bk BK266.out) hb); have n6_ := Aside0.mk (blk_below (g := gb270) (o := .cells #[.slice Ao26 t267.length co26] 28 (0, 0)) (bk BK270.out) hb); have n7_ := Aside0.mk (below_step (hB HB.out) hb); have n8_ := Aside0.mk (hbox); have n9_ := Aside0.mk ((by rw [hg]; exact (below_size (hB HB.out)) : w.heap.size ≤ gb275)); have n10_ := Aside0.mk ((by rw [hg]; exact (below_size (hB HB.out)) : w.heap.size ≤ gb275)); have n11_ := Aside0.mk ((by rw [hg]; exact Nat.ne_of_lt (blk_lt (g := gb257) (o := .cells #[.slice A0_0 l0_0.length c0_0] 24 (0, 0)) (bk BK257.out)) : gb257 ≠ gb275)); have n12_ := Aside0.mk ((by rw [hg]; exact Nat.ne_of_gt (blk_lt (g := gb257) (o := .cells #[.slice A0_0 l0_0.length c0_0] 24 (0, 0)) (bk BK257.out)) : gb275 ≠ gb257)); have n13_ := Aside0.mk ((by rw [hg]; exact Nat.ne_of_lt (blk_lt (g := gb266) (o := .cells #[.slice Ao20 t262.length co20] 28 (0, 0)) (bk BK266.out)) : gb266 ≠ gb275)); have n14_ := Aside0.mk ((by rw [hg]; exact Nat.ne_of_gt (blk_lt (g := gb266) (o := .cells #[.slice Ao20 t262.length co20] 28 (0, 0)) (bk BK266.out)) : gb275 ≠ gb266)); have n15_ := Aside0.mk ((by rw [hg]; exact Nat.ne_of_lt (blk_lt (g := gb270) (o := .cells #[.slice Ao26 t267.length co26] 28 (0, 0)) (bk BK270.out)) : gb270 ≠ gb275)); have n16_ := Aside0.mk ((by rw [hg]; exact Nat.ne_of_gt (blk_lt (g := gb270) (o := .cells #[.slice Ao26 t267.length co26] 28 (0, 0)) (bk BK270.out)) : gb275 ≠ gb270)); clear HO261; clear HO264; clear HO269; clear HO273; clear BK257; clear BK266; clear BK270; clear HB; have HO261 := n0_; have HO264 := n1_; have HO269 := n2_; have HO273 := n3_; have BK257 := n4_; have BK266 := n5_; have BK270 := n6_; have HB := n7_; have BK275 := n8_; have GW275 := n9_; have GE275 := n10_; have NB257_275 := n11_; have NB275_257 := n12_; have NB266_275 := n13_; have NB275_266 := n14_; have NB270_275 := n15_; have NB275_270 := n16_; clear n0_ n1_ n2_ n3_ n4_ n5_ n6_ n7_ n8_ n9_ n10_ n11_ n12_ n13_ n14_ n15_ n16_; clear hb hbox hg; obtain ⟨Ao32, co32, eo32⟩ := Kd.R_slice HO273.out; subst eo32; have hnb33 := NB275_257.out; have hnc33 := NB257_275.out; have hnb34 := NB275_266.out; have hnc34 := NB266_275.out; have hnb35 := NB275_270.out; have hnc35 := NB270_275.out; have hcz36_0 : w31.cell? ⟨gb275, 0, none⟩ = some (.slice none 0 0) := (blk_cell BK275.out 0).trans rfl; have hfz36_0 := blk_frozen BK275.out 0))
  (try simp only [Act.put, List.setIfInBounds_toArray, List.set_cons_zero, List.set_cons_succ])
  go_cut [40] (fun v40 wc => ∃ (kq : Nat) (x40_10 : Bool), v40 = .bool x40_10 ∧ Aside0 (laws_FnExactHarderPuzzle.j0 kq t265 t274 x40_10 l0_0 t262 t267 t271 = some r) ∧ Aside0 (kq ≤ k) ∧ Aside0 (Kd.R k43 43 wc w.heap.size (fun k_ => some k_ ≠ ((.slice Ao26 t267.length co26) : Value).ownBlock ∧ some k_ ≠ ((.slice Ao32 t271.length co32) : Value).ownBlock) (.slice Ao20 t262.length co20) t262) ∧ Aside0 (Kd.R k43 43 wc w.heap.size (fun k_ => some k_ ≠ ((.slice Ao20 t262.length co20) : Value).ownBlock ∧ some k_ ≠ ((.slice Ao32 t271.length co32) : Value).ownBlock) (.slice Ao26 t267.length co26) t267) ∧ Aside0 (Kd.R k43 43 wc w.heap.size (fun k_ => some k_ ≠ ((.slice Ao20 t262.length co20) : Value).ownBlock ∧ some k_ ≠ ((.slice Ao26 t267.length co26) : Value).ownBlock) (.slice Ao32 t271.length co32) t271) ∧ Aside0 (wc.heap[gb257]? = some (.cells #[(.slice A0_0 l0_0.length c0_0)] 24 (0, 0))) ∧ Aside0 (wc.heap[gb266]? = some (.cells #[(.slice Ao20 t262.length co20)] 28 (0, 0))) ∧ Aside0 (wc.heap[gb270]? = some (.cells #[(.slice Ao26 t267.length co26)] 28 (0, 0))) ∧ Aside0 (wc.heap[gb275]? = some (.cells #[(.slice Ao32 t271.length co32)] 28 (0, 0))) ∧ Aside0 (Below w.heap.size w wc))
  case first =>
   have H := HC11.out
   clear HC11
   replace H := Option.bind_eq_some_iff.mp H
   obtain ⟨t276, A370, H⟩ := H
   replace H : (if t276 = true then (laws_FnExactHarderPuzzle.j0 k t265 t274 (t274 != t265) l0_0 t262 t267 t271) else (laws_FnExactHarderPuzzle.j0 k t265 t274 true l0_0 t262 t267 t271)) = some r := H
   have A37 := Aside0.mk A370
   clear A370
   by_cases c38 : t276 = true
   ·subst c38
    have H1 : (laws_FnExactHarderPuzzle.j0 k t265 t274 (t274 != t265) l0_0 t262 t267 t271) = some r := by rw [if_pos rfl] at H; exact H
    clear H
    have H := H1
    clear H1
    have H' := Aside0.mk H
    clear H
    have hnb39 := NB275_257.out
    have hnc39 := NB257_275.out
    have hnb40 := NB275_266.out
    have hnc40 := NB266_275.out
    have hnb41 := NB275_270.out
    have hnc41 := NB270_275.out
    have hcz42_0 : w31.cell? ⟨gb275, 0, none⟩ = some (.slice none 0 0) := (blk_cell BK275.out 0).trans rfl
    have hfz42_0 := blk_frozen BK275.out 0
    have hnb43 := NB266_257.out
    have hnc43 := NB257_266.out
    have hnb44 := NB266_270.out
    have hnc44 := NB270_266.out
    have hcz45_0 : w31.cell? ⟨gb266, 0, none⟩ = some (.slice Ao20 t262.length co20) := (blk_cell BK266.out 0).trans rfl
    have hfz45_0 := blk_frozen BK266.out 0
    go_wp2_with (first | ((with_reducible refine gate_callee (f := 11) rfl ?_); refine goesL_ (some 34) rfl rfl Try.func11 (by kernel_rfl) rfl #[.agg #[.slice Ao32 t271.length co32], .agg #[.slice Ao20 t262.length co20]] rfl (by (try simp only [List.map_toArray, List.map_cons, List.map_nil]); first | done | rfl | (simp only [List.length_drop, List.length_take]; rfl)) ?_; (with_reducible refine (laws_eqPuzzle.calls k _ _ t271 _ _ t262 true _ ?side1 ?side2 ?side3 ?side4 A37.out).mono ?_); (case side1 => refine (Kd.R_reads' (e := 43) (base := w.heap.size) (ok := fun k_ => (((True ∧ some k_ ≠ (.slice Ao17 t259.length co17 : Value).ownBlock) ∧ some k_ ≠ (.slice Ao20 t262.length co20 : Value).ownBlock) ∧ some k_ ≠ (.slice Ao26 t267.length co26 : Value).ownBlock)) (n := t271.length) (c := co32) ?_).2.2; exact (rk (Kd.R_mono (Kd.R_far (p := ⟨gb275, 0, none⟩) (Kd.R_types HO273.out BK275.out (by decide)) (fun _ hk => hk.2) (.slice Ao32 t271.length co32)) (fun _ h_ => h_.1)))); (case side2 => exact (Kd.R_reads' HO273.out).2.1); (case side3 => refine (Kd.R_reads' (e := 43) (base := w.heap.size) (ok := fun k_ => (((True ∧ some k_ ≠ (.slice Ao17 t259.length co17 : Value).ownBlock) ∧ some k_ ≠ (.slice Ao26 t267.length co26 : Value).ownBlock) ∧ some k_ ≠ (.slice Ao32 t271.length co32 : Value).ownBlock)) (n := t262.length) (c := co20) ?_).2.2; exact (rk (Kd.R_mono (Kd.R_far (p := ⟨gb275, 0, none⟩) (Kd.R_types HO264.out BK275.out (by decide)) (fun _ hk => hk.2) (.slice Ao32 t271.length co32)) (fun _ h_ => h_.1)))); (case side4 => exact (Kd.R_reads' HO264.out).2.1); rintro e w46 ⟨rfl, hb⟩; refine ⟨_, rfl, ?_⟩; have n0_ := Aside0.mk (Kd.R_below (rk (Kd.R_mono (Kd.R_far (p := ⟨gb275, 0, none⟩) (Kd.R_types HO261.out BK275.out (by decide)) (fun _ hk => hk.2) (.slice Ao32 t271.length co32)) (fun _ h_ => h_.1))) hb); have n1_ := Aside0.mk (Kd.R_below (rk (Kd.R_mono (Kd.R_far (p := ⟨gb275, 0, none⟩) (Kd.R_types HO264.out BK275.out (by decide)) (fun _ hk => hk.2) (.slice Ao32 t271.length co32)) (fun _ h_ => h_.1))) hb); have n2_ := Aside0.mk (Kd.R_below (rk (Kd.R_mono (Kd.R_far (p := ⟨gb275, 0, none⟩) (Kd.R_types HO269.out BK275.out (by decide)) (fun _ hk => hk.2) (.slice Ao32 t271.length co32)) (fun _ h_ => h_.1))) hb); have n3_ := Aside0.mk (Kd.R_below (rk (Kd.R_mono (Kd.R_far (p := ⟨gb275, 0, none⟩) (Kd.R_types HO273.out BK275.out (by decide)) (fun _ hk => hk.2) (.slice Ao32 t271.length co32)) (fun _ h_ => h_.1))) hb); have n4_ := Aside0.mk (blk_below (g := gb257) (o := .cells #[.slice A0_0 l0_0.length c0_0] 24 (0, 0)) (by (with_reducible repeat (first | refine blk_drewN ?_ _ | refine blk_drew ?_ | refine blk_alloc ?_ _)); refine blk_far ?_ NB257_275.out _; (with_reducible repeat (first | refine blk_drewN ?_ _ | refine blk_drew ?_ | refine blk_alloc ?_ _)); exact BK257.out) hb); have n5_ := Aside0.mk (blk_below (g := gb266) (o := .cells #[.slice Ao20 t262.length co20] 28 (0, 0)) (by (with_reducible repeat (first | refine blk_drewN ?_ _ | refine blk_drew ?_ | refine blk_alloc ?_ _)); refine blk_far ?_ NB266_275.out _; (with_reducible repeat (first | refine blk_drewN ?_ _ | refine blk_drew ?_ | refine blk_alloc ?_ _)); exact BK266.out) hb); have n6_ := Aside0.mk (blk_below (g := gb270) (o := .cells #[.slice Ao26 t267.length co26] 28 (0, 0)) (by (with_reducible repeat (first | refine blk_drewN ?_ _ | refine blk_drew ?_ | refine blk_alloc ?_ _)); refine blk_far ?_ NB270_275.out _; (with_reducible repeat (first | refine blk_drewN ?_ _ | refine blk_drew ?_ | refine blk_alloc ?_ _)); exact BK270.out) hb); have n7_ := Aside0.mk (blk_below (g := gb275) (o := .cells #[.slice Ao32 t271.length co32] 28 (0, 0)) (by (with_reducible repeat (first | refine blk_drewN ?_ _ | refine blk_drew ?_ | refine blk_alloc ?_ _)); refine blk_put (cs := #[.slice none 0 0]) ?_ 0 _ rfl; (with_reducible repeat (first | refine blk_drewN ?_ _ | refine blk_drew ?_ | refine blk_alloc ?_ _)); exact BK275.out) hb); have n8_ := Aside0.mk (below_step (hB HB.out) hb); clear HO261; clear HO264; clear HO269; clear HO273; clear BK257; clear BK266; clear BK270; clear BK275; clear HB; have HO261 := n0_; have HO264 := n1_; have HO269 := n2_; have HO273 := n3_; have BK257 := n4_; have BK266 := n5_; have BK270 := n6_; have BK275 := n7_; have HB := n8_; clear n0_ n1_ n2_ n3_ n4_ n5_ n6_ n7_ n8_; (try clear hb); (try clear hb2); (try clear hk); (try clear hi)))
    go_meet
    case rel => exact ⟨_, ((t274 != t265)), (by first | rfl | (simp; done) | (simp [*]; done)), H', ⟨by first | omega | exact Nat.le_refl _⟩, ⟨rk (Kd.R_mono HO264.out (fun _ hk => ⟨hk.1.2, hk.2⟩))⟩, ⟨rk (Kd.R_mono HO269.out (fun _ hk => ⟨hk.1.2, hk.2⟩))⟩, ⟨rk (Kd.R_mono HO273.out (fun _ hk => ⟨hk.1.2, hk.2⟩))⟩, ⟨bk BK257.out⟩, ⟨bk BK266.out⟩, ⟨bk BK270.out⟩, ⟨bk BK275.out⟩, ⟨hB HB.out⟩⟩
   ·replace c38 := Bool.eq_false_iff.mpr c38
    subst c38
    have H1 : (laws_FnExactHarderPuzzle.j0 k t265 t274 true l0_0 t262 t267 t271) = some r := by rw [if_neg (show ¬ (false = true) by decide)] at H; exact H
    clear H
    have H := H1
    clear H1
    have H' := Aside0.mk H
    clear H
    have hnb47 := NB275_257.out
    have hnc47 := NB257_275.out
    have hnb48 := NB275_266.out
    have hnc48 := NB266_275.out
    have hnb49 := NB275_270.out
    have hnc49 := NB270_275.out
    have hcz50_0 : w31.cell? ⟨gb275, 0, none⟩ = some (.slice none 0 0) := (blk_cell BK275.out 0).trans rfl
    have hfz50_0 := blk_frozen BK275.out 0
    have hnb51 := NB266_257.out
    have hnc51 := NB257_266.out
    have hnb52 := NB266_270.out
    have hnc52 := NB270_266.out
    have hcz53_0 : w31.cell? ⟨gb266, 0, none⟩ = some (.slice Ao20 t262.length co20) := (blk_cell BK266.out 0).trans rfl
    have hfz53_0 := blk_frozen BK266.out 0
    go_wp2_with (first | ((with_reducible refine gate_callee (f := 11) rfl ?_); refine goesL_ (some 34) rfl rfl Try.func11 (by kernel_rfl) rfl #[.agg #[.slice Ao32 t271.length co32], .agg #[.slice Ao20 t262.length co20]] rfl (by (try simp only [List.map_toArray, List.map_cons, List.map_nil]); first | done | rfl | (simp only [List.length_drop, List.length_take]; rfl)) ?_; (with_reducible refine (laws_eqPuzzle.calls k _ _ t271 _ _ t262 false _ ?side1 ?side2 ?side3 ?side4 A37.out).mono ?_); (case side1 => refine (Kd.R_reads' (e := 43) (base := w.heap.size) (ok := fun k_ => (((True ∧ some k_ ≠ (.slice Ao17 t259.length co17 : Value).ownBlock) ∧ some k_ ≠ (.slice Ao20 t262.length co20 : Value).ownBlock) ∧ some k_ ≠ (.slice Ao26 t267.length co26 : Value).ownBlock)) (n := t271.length) (c := co32) ?_).2.2; exact (rk (Kd.R_mono (Kd.R_far (p := ⟨gb275, 0, none⟩) (Kd.R_types HO273.out BK275.out (by decide)) (fun _ hk => hk.2) (.slice Ao32 t271.length co32)) (fun _ h_ => h_.1)))); (case side2 => exact (Kd.R_reads' HO273.out).2.1); (case side3 => refine (Kd.R_reads' (e := 43) (base := w.heap.size) (ok := fun k_ => (((True ∧ some k_ ≠ (.slice Ao17 t259.length co17 : Value).ownBlock) ∧ some k_ ≠ (.slice Ao26 t267.length co26 : Value).ownBlock) ∧ some k_ ≠ (.slice Ao32 t271.length co32 : Value).ownBlock)) (n := t262.length) (c := co20) ?_).2.2; exact (rk (Kd.R_mono (Kd.R_far (p := ⟨gb275, 0, none⟩) (Kd.R_types HO264.out BK275.out (by decide)) (fun _ hk => hk.2) (.slice Ao32 t271.length co32)) (fun _ h_ => h_.1)))); (case side4 => exact (Kd.R_reads' HO264.out).2.1); rintro e w54 ⟨rfl, hb⟩; refine ⟨_, rfl, ?_⟩; have n0_ := Aside0.mk (Kd.R_below (rk (Kd.R_mono (Kd.R_far (p := ⟨gb275, 0, none⟩) (Kd.R_types HO261.out BK275.out (by decide)) (fun _ hk => hk.2) (.slice Ao32 t271.length co32)) (fun _ h_ => h_.1))) hb); have n1_ := Aside0.mk (Kd.R_below (rk (Kd.R_mono (Kd.R_far (p := ⟨gb275, 0, none⟩) (Kd.R_types HO264.out BK275.out (by decide)) (fun _ hk => hk.2) (.slice Ao32 t271.length co32)) (fun _ h_ => h_.1))) hb); have n2_ := Aside0.mk (Kd.R_below (rk (Kd.R_mono (Kd.R_far (p := ⟨gb275, 0, none⟩) (Kd.R_types HO269.out BK275.out (by decide)) (fun _ hk => hk.2) (.slice Ao32 t271.length co32)) (fun _ h_ => h_.1))) hb); have n3_ := Aside0.mk (Kd.R_below (rk (Kd.R_mono (Kd.R_far (p := ⟨gb275, 0, none⟩) (Kd.R_types HO273.out BK275.out (by decide)) (fun _ hk => hk.2) (.slice Ao32 t271.length co32)) (fun _ h_ => h_.1))) hb); have n4_ := Aside0.mk (blk_below (g := gb257) (o := .cells #[.slice A0_0 l0_0.length c0_0] 24 (0, 0)) (by (with_reducible repeat (first | refine blk_drewN ?_ _ | refine blk_drew ?_ | refine blk_alloc ?_ _)); refine blk_far ?_ NB257_275.out _; (with_reducible repeat (first | refine blk_drewN ?_ _ | refine blk_drew ?_ | refine blk_alloc ?_ _)); exact BK257.out) hb); have n5_ := Aside0.mk (blk_below (g := gb266) (o := .cells #[.slice Ao20 t262.length co20] 28 (0, 0)) (by (with_reducible repeat (first | refine blk_drewN ?_ _ | refine blk_drew ?_ | refine blk_alloc ?_ _)); refine blk_far ?_ NB266_275.out _; (with_reducible repeat (first | refine blk_drewN ?_ _ | refine blk_drew ?_ | refine blk_alloc ?_ _)); exact BK266.out) hb); have n6_ := Aside0.mk (blk_below (g := gb270) (o := .cells #[.slice Ao26 t267.length co26] 28 (0, 0)) (by (with_reducible repeat (first | refine blk_drewN ?_ _ | refine blk_drew ?_ | refine blk_alloc ?_ _)); refine blk_far ?_ NB270_275.out _; (with_reducible repeat (first | refine blk_drewN ?_ _ | refine blk_drew ?_ | refine blk_alloc ?_ _)); exact BK270.out) hb); have n7_ := Aside0.mk (blk_below (g := gb275) (o := .cells #[.slice Ao32 t271.length co32] 28 (0, 0)) (by (with_reducible repeat (first | refine blk_drewN ?_ _ | refine blk_drew ?_ | refine blk_alloc ?_ _)); refine blk_put (cs := #[.slice none 0 0]) ?_ 0 _ rfl; (with_reducible repeat (first | refine blk_drewN ?_ _ | refine blk_drew ?_ | refine blk_alloc ?_ _)); exact BK275.out) hb); have n8_ := Aside0.mk (below_step (hB HB.out) hb); clear HO261; clear HO264; clear HO269; clear HO273; clear BK257; clear BK266; clear BK270; clear BK275; clear HB; have HO261 := n0_; have HO264 := n1_; have HO269 := n2_; have HO273 := n3_; have BK257 := n4_; have BK266 := n5_; have BK270 := n6_; have BK275 := n7_; have HB := n8_; clear n0_ n1_ n2_ n3_ n4_ n5_ n6_ n7_ n8_; (try clear hb); (try clear hb2); (try clear hk); (try clear hi)))
    go_meet
    case rel => exact ⟨_, (true), (by first | rfl | (simp; done) | (simp [*]; done)), H', ⟨by first | omega | exact Nat.le_refl _⟩, ⟨rk (Kd.R_mono HO264.out (fun _ hk => ⟨hk.1.2, hk.2⟩))⟩, ⟨rk (Kd.R_mono HO269.out (fun _ hk => ⟨hk.1.2, hk.2⟩))⟩, ⟨rk (Kd.R_mono HO273.out (fun _ hk => ⟨hk.1.2, hk.2⟩))⟩, ⟨bk BK257.out⟩, ⟨bk BK266.out⟩, ⟨bk BK270.out⟩, ⟨bk BK275.out⟩, ⟨hB HB.out⟩⟩
  case rest =>
   clear HC11
   try clear c1
   try clear c2
   try clear p2
   try clear c3
   try clear c3b0
   try clear c4
   try clear c5
   try clear c7
   try clear c8
   try clear c9
   try clear c10
   try clear c11
   try clear c21
   try clear c27
   try clear c28
   try clear c33
   try clear c34
   try clear c35
   try clear c38
   try clear c39
   try clear c40
   try clear c41
   try clear c43
   try clear c44
   try clear c47
   try clear c48
   try clear c49
   try clear c51
   try clear c52
   try clear hcz13_0
   try clear hcz15_0
   try clear hcz22_0
   try clear hcz23_0
   try clear hcz29_0
   try clear hcz36_0
   try clear hcz42_0
   try clear hcz45_0
   try clear hcz50_0
   try clear hcz53_0
   try clear hcz5_0
   try clear hfz13_0
   try clear hfz15_0
   try clear hfz22_0
   try clear hfz23_0
   try clear hfz29_0
   try clear hfz36_0
   try clear hfz42_0
   try clear hfz45_0
   try clear hfz50_0
   try clear hfz53_0
   try clear hfz5_0
   obtain ⟨kq, x40_10, rfl, HA, HJ10, HO_267000, HO_271000, HO_276000, BK257, BK266, BK270, BK275, HB⟩ := hcut
   cases kq with
   | zero => exact absurd HA.out (by simp [laws_FnExactHarderPuzzle.j0])
   | succ kj10 =>
    have H := HA.out
    clear HA
    simp only [laws_FnExactHarderPuzzle.j0] at H
    by_cases c55 : x40_10 = true
    ·subst c55
     have H1 : (some false) = some r := by rw [if_pos rfl] at H; exact H
     clear H
     have H := H1
     clear H1
     obtain rfl := Option.some.inj H
     go_wp2
     go_ret
     exact ⟨by first | rfl | (simp [errW_none, errW_some] <;> rfl) | (simp [*, errW_none, errW_some] <;> rfl), hB HB.out⟩
    ·replace c55 := Bool.eq_false_iff.mpr c55
     subst c55
     have H1 : ((laws_toPuzzle.f kj10 l0_0).bind fun t277 => ((laws_eqPuzzle.f kj10 t267 t277).bind fun t280 => (if t280 = true then ((laws_markPuzzle.f kj10 t267 1).bind fun bt281 => (if bt281.1 < 0 then (laws_FnExactHarderPuzzle.j1 kj10 t265 true l0_0 t262 t271) else ((laws_eqPuzzle.f kj10 t271 t262).bind fun t283 => (if t283 = true then (laws_FnExactHarderPuzzle.j1 kj10 t265 (t274 != t265) l0_0 t262 t271) else (laws_FnExactHarderPuzzle.j1 kj10 t265 true l0_0 t262 t271))))) else (some false)))) = some r := by rw [if_neg (show ¬ (false = true) by decide)] at H; exact H
     clear H
     have H := H1
     clear H1
     replace H := Option.bind_eq_some_iff.mp H
     obtain ⟨t277, A560, H⟩ := H
     replace H : ((laws_eqPuzzle.f kj10 t267 t277).bind fun t280 => (if t280 = true then ((laws_markPuzzle.f kj10 t267 1).bind fun bt281 => (if bt281.1 < 0 then (laws_FnExactHarderPuzzle.j1 kj10 t265 true l0_0 t262 t271) else ((laws_eqPuzzle.f kj10 t271 t262).bind fun t283 => (if t283 = true then (laws_FnExactHarderPuzzle.j1 kj10 t265 (t274 != t265) l0_0 t262 t271) else (laws_FnExactHarderPuzzle.j1 kj10 t265 true l0_0 t262 t271))))) else (some false))) = some r := H
     have A56 := Aside0.mk A560
     clear A560
     replace H := Option.bind_eq_some_iff.mp H
     obtain ⟨t280, A570, H⟩ := H
     replace H : (if t280 = true then ((laws_markPuzzle.f kj10 t267 1).bind fun bt281 => (if bt281.1 < 0 then (laws_FnExactHarderPuzzle.j1 kj10 t265 true l0_0 t262 t271) else ((laws_eqPuzzle.f kj10 t271 t262).bind fun t283 => (if t283 = true then (laws_FnExactHarderPuzzle.j1 kj10 t265 (t274 != t265) l0_0 t262 t271) else (laws_FnExactHarderPuzzle.j1 kj10 t265 true l0_0 t262 t271))))) else (some false)) = some r := H
     have A57 := Aside0.mk A570
     clear A570
     by_cases c58 : t280 = true
     ·subst c58
      have H1 : ((laws_markPuzzle.f kj10 t267 1).bind fun bt281 => (if bt281.1 < 0 then (laws_FnExactHarderPuzzle.j1 kj10 t265 true l0_0 t262 t271) else ((laws_eqPuzzle.f kj10 t271 t262).bind fun t283 => (if t283 = true then (laws_FnExactHarderPuzzle.j1 kj10 t265 (t274 != t265) l0_0 t262 t271) else (laws_FnExactHarderPuzzle.j1 kj10 t265 true l0_0 t262 t271))))) = some r := by rw [if_pos rfl] at H; exact H
      clear H
      have H := H1
      clear H1
      replace H := Option.bind_eq_some_iff.mp H
      obtain ⟨⟨t281, t282⟩, A590, H⟩ := H
      replace H : (if t281 < 0 then (laws_FnExactHarderPuzzle.j1 kj10 t265 true l0_0 t262 t271) else ((laws_eqPuzzle.f kj10 t271 t262).bind fun t283 => (if t283 = true then (laws_FnExactHarderPuzzle.j1 kj10 t265 (t274 != t265) l0_0 t262 t271) else (laws_FnExactHarderPuzzle.j1 kj10 t265 true l0_0 t262 t271)))) = some r := H
      have A59 := Aside0.mk A590
      clear A590
      have HC60 := Aside0.mk H
      clear H
      try go_wp2
      have n0_ := Aside0.mk (Kd.R_drew HO_267000.out)
      have n1_ := Aside0.mk (Kd.R_drew HO_271000.out)
      have n2_ := Aside0.mk (Kd.R_drew HO_276000.out)
      have n3_ := Aside0.mk (blk_drew BK257.out)
      have n4_ := Aside0.mk (blk_drew BK266.out)
      have n5_ := Aside0.mk (blk_drew BK270.out)
      have n6_ := Aside0.mk (blk_drew BK275.out)
      have n7_ := Aside0.mk (below_drew1 HB.out)
      clear HO_267000
      clear HO_271000
      clear HO_276000
      clear BK257
      clear BK266
      clear BK270
      clear BK275
      clear HB
      have HO_267000 := n0_
      have HO_271000 := n1_
      have HO_276000 := n2_
      have BK257 := n3_
      have BK266 := n4_
      have BK270 := n5_
      have BK275 := n6_
      have HB := n7_
      clear n0_ n1_ n2_ n3_ n4_ n5_ n6_ n7_
      refine start_ (n := 5) (S := fun w' => w'.cell? ⟨gb270, 0, none⟩ = some (.slice Ao26 t267.length co26) ∧ w'.cell? ⟨gb257, 0, none⟩ = some (.slice A0_0 l0_0.length c0_0)) (ds := []) #[false, false, false, false, false] (by kernel_rfl) rfl rfl ⟨(blk_cell BK270.out 0).trans rfl, (blk_cell BK257.out 0).trans rfl⟩ (fun hHeld => ?_)
      generalize wc.drew = w61 at HO_267000 HO_271000 HO_276000 BK257 BK266 BK270 BK275 HB hHeld ⊢
      refine take_ (i := 0) (N := some 41) (v := ?_) (a' := ?_) #[true, false, false, false, false] rfl rfl (by kernel_rfl) (fun _ _ _ h => h) (Or.inl ⟨by rfl, ?_⟩) hHeld ?_ ?_
      rotate_left
      ·rintro w' ⟨s0, s1⟩
       go_simp
       with_reducible rfl
      rotate_left
      ·simp only [Act.put, List.setIfInBounds_toArray, List.set_cons_zero, List.set_cons_succ, i64_w, i32_w]
       rfl
      refine take_ (i := 1) (N := some 42) (v := ?_) (a' := ?_) #[true, true, false, false, false] rfl rfl (by kernel_rfl) (fun _ _ _ h => h) (Or.inl ⟨by rfl, ?_⟩) hHeld ?_ ?_
      rotate_left
      ·rintro w' ⟨s0, s1⟩
       go_simp
       with_reducible rfl
      rotate_left
      ·simp only [Act.put, List.setIfInBounds_toArray, List.set_cons_zero, List.set_cons_succ, i64_w, i32_w]
       rfl
      refine one_ (i := 2) (N := some 43) #[true, true, true, false, false] rfl rfl (by kernel_rfl) (by decide) (fun K hK => ?_)
      refine goes_ Try.func9 (by kernel_rfl) rfl #[.agg #[.slice A0_0 l0_0.length c0_0]] (by rfl) rfl rfl (by (try simp only [List.map_toArray, List.map_cons, List.map_nil]); first | done | rfl | (simp only [List.length_drop, List.length_take]; rfl)) ?_
      with_reducible refine (laws_toPuzzle.calls kj10 _ _ l0_0 t277 _ ?side1 ?side2 A56.out).mono ?_
      (case side1 => repeat (first | exact (Kd.C_below HR0_0.out HB.out) | (with_reducible refine Kd.C_alloc ?_ _) | (with_reducible refine Kd.C_drewN ?_ _) | (with_reducible refine Kd.C_drew ?_)))
      (case side2 => exact HC0_0.out)
      rintro e w62 ⟨v278, rfl, ho0, hb⟩
      refine ⟨_, rfl, ?_⟩
      have n0_ := Aside0.mk (Kd.R_elder' (rk HO_267000.out) (Kd.R_base ho0) hb)
      have n1_ := Aside0.mk (Kd.R_elder' (rk HO_271000.out) (Kd.R_base ho0) hb)
      have n2_ := Aside0.mk (Kd.R_elder' (rk HO_276000.out) (Kd.R_base ho0) hb)
      have n3_ := Aside0.mk (Kd.R_lower (Kd.R_new' (Kd.R_new' (Kd.R_new' ho0 (Kd.R_lt (rk HO_267000.out))) (Kd.R_lt (rk HO_271000.out))) (Kd.R_lt (rk HO_276000.out))) (below_size (hB HB.out)))
      have n4_ := Aside0.mk (blk_below (g := gb257) (o := .cells #[.slice A0_0 l0_0.length c0_0] 24 (0, 0)) (bk BK257.out) hb)
      have n5_ := Aside0.mk (blk_below (g := gb266) (o := .cells #[.slice Ao20 t262.length co20] 28 (0, 0)) (bk BK266.out) hb)
      have n6_ := Aside0.mk (blk_below (g := gb270) (o := .cells #[.slice Ao26 t267.length co26] 28 (0, 0)) (bk BK270.out) hb)
      have n7_ := Aside0.mk (blk_below (g := gb275) (o := .cells #[.slice Ao32 t271.length co32] 28 (0, 0)) (bk BK275.out) hb)
      have n8_ := Aside0.mk (below_step (hB HB.out) hb)
      clear HO_267000
      clear HO_271000
      clear HO_276000
      clear BK257
      clear BK266
      clear BK270
      clear BK275
      clear HB
      have HO_267000 := n0_
      have HO_271000 := n1_
      have HO_276000 := n2_
      have HO279 := n3_
      have BK257 := n4_
      have BK266 := n5_
      have BK270 := n6_
      have BK275 := n7_
      have HB := n8_
      clear n0_ n1_ n2_ n3_ n4_ n5_ n6_ n7_ n8_
      (try clear hb)
      (try clear hb2)
      (try clear hk)
      (try clear hi)
      (try clear ho0)
      obtain ⟨Ao63, co63, eo63⟩ := Kd.R_slice HO279.out
      (first | subst eo63 | (injection eo63 with f1_ f2_ f3_; have f4_ := f1_.symm; have f5_ := f3_.symm; clear f1_ f2_ f3_; subst f4_; subst f5_))
      refine hK.out _ _ ⟨(blk_cell BK270.out 0).trans rfl, (blk_cell BK257.out 0).trans rfl⟩ (fun hHeld => ?_)
      clear hK K
      refine norm_ (a' := ?_) ?_ ?_
      rotate_left
      ·show Act.put _ (some 43) _ = _
       simp only [Act.put, List.setIfInBounds_toArray, List.set_cons_zero, List.set_cons_succ, i64_w, i32_w]
       rfl
      refine one_ (i := 3) (N := some 44) #[true, true, true, true, false] rfl rfl (by kernel_rfl) (by decide) (fun K hK => ?_)
      refine goes_ Try.func11 (by kernel_rfl) rfl #[.agg #[.slice Ao26 t267.length co26], .agg #[.slice Ao63 t277.length co63]] (by rfl) rfl rfl (by (try simp only [List.map_toArray, List.map_cons, List.map_nil]); first | done | rfl | (simp only [List.length_drop, List.length_take]; rfl)) ?_
      with_reducible refine (laws_eqPuzzle.calls kj10 _ _ t267 _ _ t277 true _ ?side1 ?side2 ?side3 ?side4 A57.out).mono ?_
      (case side1 => repeat (first | exact (Kd.R_reads' HO_271000.out).2.2 | (with_reducible refine Kd.C_alloc ?_ _) | (with_reducible refine Kd.C_drewN ?_ _) | (with_reducible refine Kd.C_drew ?_)))
      (case side2 => exact (Kd.R_reads' HO_271000.out).2.1)
      (case side3 => repeat (first | exact (Kd.R_reads' HO279.out).2.2 | (with_reducible refine Kd.C_alloc ?_ _) | (with_reducible refine Kd.C_drewN ?_ _) | (with_reducible refine Kd.C_drew ?_)))
      (case side4 => exact (Kd.R_reads' HO279.out).2.1)
      rintro e w64 ⟨rfl, hb⟩
      refine ⟨_, rfl, ?_⟩
      have n0_ := Aside0.mk (Kd.R_below (rk HO_267000.out) hb)
      have n1_ := Aside0.mk (Kd.R_below (rk HO_271000.out) hb)
      have n2_ := Aside0.mk (Kd.R_below (rk HO_276000.out) hb)
      have n3_ := Aside0.mk (Kd.R_below (rk HO279.out) hb)
      have n4_ := Aside0.mk (blk_below (g := gb257) (o := .cells #[.slice A0_0 l0_0.length c0_0] 24 (0, 0)) (bk BK257.out) hb)
      have n5_ := Aside0.mk (blk_below (g := gb266) (o := .cells #[.slice Ao20 t262.length co20] 28 (0, 0)) (bk BK266.out) hb)
      have n6_ := Aside0.mk (blk_below (g := gb270) (o := .cells #[.slice Ao26 t267.length co26] 28 (0, 0)) (bk BK270.out) hb)
      have n7_ := Aside0.mk (blk_below (g := gb275) (o := .cells #[.slice Ao32 t271.length co32] 28 (0, 0)) (bk BK275.out) hb)
      have n8_ := Aside0.mk (below_step (hB HB.out) hb)
      clear HO_267000
      clear HO_271000
      clear HO_276000
      clear HO279
      clear BK257
      clear BK266
      clear BK270
      clear BK275
      clear HB
      have HO_267000 := n0_
      have HO_271000 := n1_
      have HO_276000 := n2_
      have HO279 := n3_
      have BK257 := n4_
      have BK266 := n5_
      have BK270 := n6_
      have BK275 := n7_
      have HB := n8_
      clear n0_ n1_ n2_ n3_ n4_ n5_ n6_ n7_ n8_
      (try clear hb)
      (try clear hb2)
      (try clear hk)
      (try clear hi)
      refine hK.out _ _ ⟨(blk_cell BK270.out 0).trans rfl, (blk_cell BK257.out 0).trans rfl⟩ (fun hHeld => ?_)
      clear hK K
      refine norm_ (a' := ?_) ?_ ?_
      rotate_left
      ·show Act.put _ (some 44) _ = _
       simp only [Act.put, List.setIfInBounds_toArray, List.set_cons_zero, List.set_cons_succ, i64_w, i32_w]
       rfl
      refine pure_ (i := 4) (N := some 45) (v := ?_) (a' := ?_) #[true, true, true, true, true] rfl rfl (by kernel_rfl) (fun _ _ _ h => h) (Or.inl ⟨by rfl, ?_⟩) ?_ ?_
      rotate_left
      ·intro w'
       go_simp
       with_reducible rfl
      rotate_left
      ·simp only [Act.put, List.setIfInBounds_toArray, List.set_cons_zero, List.set_cons_succ, i64_w, i32_w]
       rfl
      refine done_ (by kernel_rfl) ?_
      have hnb65 := NB270_257.out
      have hnc65 := NB257_270.out
      have hnb66 := NB270_266.out
      have hnc66 := NB266_270.out
      have hnb67 := NB270_275.out
      have hnc67 := NB275_270.out
      have hcz68_0 : w64.cell? ⟨gb270, 0, none⟩ = some (.slice Ao26 t267.length co26) := (blk_cell BK270.out 0).trans rfl
      have hfz68_0 := blk_frozen BK270.out 0
      go_upto_region 14 with (first | ((with_reducible refine gate_callee (f := 12) rfl ?_); refine goesL_ (some 48) rfl rfl Try.func12 (by kernel_rfl) rfl #[.agg #[.slice Ao26 t267.length co26], .int .i64 1] rfl (by (try simp only [List.map_toArray, List.map_cons, List.map_nil]); first | done | rfl | (simp only [List.length_drop, List.length_take]; rfl)) ?_; (with_reducible refine (laws_markPuzzle.calls kj10 (fun k_ => some k_ = (.slice Ao26 t267.length co26 : Value).ownBlock) (.slice Ao26 t267.length co26) t267 1 t281 t282 w _ ?side1 ?side2 A59.out).mono ?_); (case side1 => repeat (first | (with_reducible first | exact HB.out | apply below_alloc | apply pw_below_drewN | apply below_drew1 | refine below_set ?_ GE257.out | refine below_set ?_ GE266.out | refine below_set ?_ GE270.out | refine below_set ?_ GE275.out) | exact HB.out)); (case side2 => exact Kd.R_tight rfl HO_271000.out); rintro e w69 ⟨rfl, hy0, hb, hkp⟩; refine ⟨_, rfl, ?_⟩; have n0_ := Aside0.mk (Kd.R_mono (ok' := fun k_ => some k_ ≠ (.slice Ao26 t267.length co26 : Value).ownBlock ∧ some k_ ≠ (.slice Ao32 t271.length co32 : Value).ownBlock ∧ some k_ ≠ (.slice Ao63 t277.length co63 : Value).ownBlock) (Kd.R_keptB (HO_267000.out) hkp (fun k_ hk_ hs_ => (hk_.1.1) hs_)) (fun k_ hk_ => ⟨hk_.1.1.1, hk_.1.1.2, hk_.1.2⟩)); have n1_ := Aside0.mk (Kd.R_reok rfl hy0 (fun k_ e_ => HO_271000.out.1 k_ e_)); have n2_ := Aside0.mk (Kd.R_mono (ok' := fun k_ => some k_ ≠ (.slice Ao20 t262.length co20 : Value).ownBlock ∧ some k_ ≠ (.slice Ao26 t267.length co26 : Value).ownBlock ∧ some k_ ≠ (.slice Ao63 t277.length co63 : Value).ownBlock) (Kd.R_keptB (HO_276000.out) hkp (fun k_ hk_ hs_ => (hk_.1.2) hs_)) (fun k_ hk_ => ⟨hk_.1.1.1, hk_.1.1.2, hk_.1.2⟩)); have n3_ := Aside0.mk (blk_kept (bk BK257.out) hkp (fun hs_ => (fun e_ => (Kd.R_ne HO_271000.out BK257.out (by decide)) e_) hs_)); have n4_ := Aside0.mk (blk_kept (bk BK266.out) hkp (fun hs_ => (fun e_ => (Kd.R_ne HO_271000.out BK266.out (by decide)) e_) hs_)); have n5_ := Aside0.mk (blk_kept (bk BK270.out) hkp (fun hs_ => (fun e_ => (Kd.R_ne HO_271000.out BK270.out (by decide)) e_) hs_)); have n6_ := Aside0.mk (blk_kept (bk BK275.out) hkp (fun hs_ => (fun e_ => (Kd.R_ne HO_271000.out BK275.out (by decide)) e_) hs_)); have n7_ := Aside0.mk (Kd.R_mono (ok' := fun k_ => some k_ ≠ (.slice Ao20 t262.length co20 : Value).ownBlock ∧ some k_ ≠ (.slice Ao26 t267.length co26 : Value).ownBlock ∧ some k_ ≠ (.slice Ao32 t271.length co32 : Value).ownBlock) (Kd.R_keptB (HO279.out) hkp (fun k_ hk_ hs_ => (hk_.1.2) hs_)) (fun k_ hk_ => ⟨hk_.1.1.1.2, hk_.1.1.2, hk_.1.2⟩)); have n8_ := Aside0.mk (hb); clear HO_267000; clear HO_271000; clear HO_276000; clear BK257; clear BK266; clear BK270; clear BK275; clear HO279; clear HB; have HO_267000 := n0_; have HO_271000 := n1_; have HO_276000 := n2_; have BK257 := n3_; have BK266 := n4_; have BK270 := n5_; have BK275 := n6_; have HO279 := n7_; have HB := n8_; clear n0_ n1_ n2_ n3_ n4_ n5_ n6_ n7_ n8_; (try clear hb); (try clear hkp); (try clear hy0)))
      (try simp only [Act.put, List.setIfInBounds_toArray, List.set_cons_zero, List.set_cons_succ])
      go_cut [61] (fun v61 wc => ∃ (kq : Nat) (x61_59 : Bool), v61 = .bool x61_59 ∧ Aside0 (laws_FnExactHarderPuzzle.j1 kq t265 x61_59 l0_0 t262 t271 = some r) ∧ Aside0 (kq ≤ kj10) ∧ Aside0 (Kd.R k43 43 wc w.heap.size (fun k_ => some k_ ≠ ((.slice Ao26 t267.length co26) : Value).ownBlock ∧ some k_ ≠ ((.slice Ao32 t271.length co32) : Value).ownBlock) (.slice Ao20 t262.length co20) t262) ∧ Aside0 (Kd.R k43 43 wc w.heap.size (fun k_ => some k_ ≠ ((.slice Ao20 t262.length co20) : Value).ownBlock ∧ some k_ ≠ ((.slice Ao32 t271.length co32) : Value).ownBlock) (.slice Ao26 t267.length co26) t282) ∧ Aside0 (Kd.R k43 43 wc w.heap.size (fun k_ => some k_ ≠ ((.slice Ao20 t262.length co20) : Value).ownBlock ∧ some k_ ≠ ((.slice Ao26 t267.length co26) : Value).ownBlock) (.slice Ao32 t271.length co32) t271) ∧ Aside0 (wc.heap[gb257]? = some (.cells #[(.slice A0_0 l0_0.length c0_0)] 24 (0, 0))) ∧ Aside0 (wc.heap[gb266]? = some (.cells #[(.slice Ao20 t262.length co20)] 28 (0, 0))) ∧ Aside0 (wc.heap[gb270]? = some (.cells #[(.slice Ao26 t267.length co26)] 28 (0, 0))) ∧ Aside0 (wc.heap[gb275]? = some (.cells #[(.slice Ao32 t271.length co32)] 28 (0, 0))) ∧ Aside0 (Below w.heap.size w wc))
      case first =>
       have H := HC60.out
       clear HC60
       by_cases c70 : t281 < 0
       ·rw [if_pos c70] at H
        have c70b0 : decide (t281 < 0) = true := decide_eq_true c70
        clear c70
        (first | rw [c70b0] | (simp only [i64_w, i32_w]; rw [c70b0]) | skip)
        have H' := Aside0.mk H
        clear H
        go_wp2
        go_meet
        case rel => exact ⟨_, (true), (by first | rfl | (simp; done) | (simp [*]; done)), H', ⟨by have := HJ10.out; first | omega | exact Nat.le_refl _⟩, ⟨rk (Kd.R_mono HO_267000.out (fun _ hk => ⟨hk.1, hk.2.1⟩))⟩, ⟨rk (Kd.R_mono HO_271000.out (fun _ hk => ⟨hk.1.1, hk.1.2⟩))⟩, ⟨rk (Kd.R_mono HO_276000.out (fun _ hk => ⟨hk.1, hk.2.1⟩))⟩, ⟨bk BK257.out⟩, ⟨bk BK266.out⟩, ⟨bk BK270.out⟩, ⟨bk BK275.out⟩, ⟨hB HB.out⟩⟩
       ·rw [if_neg c70] at H
        have c70b0 : decide (t281 < 0) = false := decide_eq_false c70
        clear c70
        (first | rw [c70b0] | (simp only [i64_w, i32_w]; rw [c70b0]) | skip)
        replace H := Option.bind_eq_some_iff.mp H
        obtain ⟨t283, A710, H⟩ := H
        replace H : (if t283 = true then (laws_FnExactHarderPuzzle.j1 kj10 t265 (t274 != t265) l0_0 t262 t271) else (laws_FnExactHarderPuzzle.j1 kj10 t265 true l0_0 t262 t271)) = some r := H
        have A71 := Aside0.mk A710
        clear A710
        by_cases c72 : t283 = true
        ·subst c72
         have H1 : (laws_FnExactHarderPuzzle.j1 kj10 t265 (t274 != t265) l0_0 t262 t271) = some r := by rw [if_pos rfl] at H; exact H
         clear H
         have H := H1
         clear H1
         have H' := Aside0.mk H
         clear H
         have hnb73 := NB275_257.out
         have hnc73 := NB257_275.out
         have hnb74 := NB275_266.out
         have hnc74 := NB266_275.out
         have hnb75 := NB275_270.out
         have hnc75 := NB270_275.out
         have hcz76_0 : w69.cell? ⟨gb275, 0, none⟩ = some (.slice Ao32 t271.length co32) := (blk_cell BK275.out 0).trans rfl
         have hfz76_0 := blk_frozen BK275.out 0
         have hnb77 := NB266_257.out
         have hnc77 := NB257_266.out
         have hnb78 := NB266_270.out
         have hnc78 := NB270_266.out
         have hcz79_0 : w69.cell? ⟨gb266, 0, none⟩ = some (.slice Ao20 t262.length co20) := (blk_cell BK266.out 0).trans rfl
         have hfz79_0 := blk_frozen BK266.out 0
         go_wp2_with (first | (go_at_call 11; (with_reducible refine (laws_eqPuzzle.calls kj10 _ _ t271 _ _ t262 true _ ?side1 ?side2 ?side3 ?side4 A71.out).mono ?_); (case side1 => repeat (first | exact (Kd.R_reads' HO_276000.out).2.2 | (with_reducible refine Kd.C_alloc ?_ _) | (with_reducible refine Kd.C_drewN ?_ _) | (with_reducible refine Kd.C_drew ?_))); (case side2 => exact (Kd.R_reads' HO_276000.out).2.1); (case side3 => repeat (first | exact (Kd.R_reads' HO_267000.out).2.2 | (with_reducible refine Kd.C_alloc ?_ _) | (with_reducible refine Kd.C_drewN ?_ _) | (with_reducible refine Kd.C_drew ?_))); (case side4 => exact (Kd.R_reads' HO_267000.out).2.1); rintro e w80 ⟨rfl, hb⟩; have n0_ := Aside0.mk (Kd.R_below (rk HO_267000.out) hb); have n1_ := Aside0.mk (Kd.R_below (rk HO_271000.out) hb); have n2_ := Aside0.mk (Kd.R_below (rk HO_276000.out) hb); have n3_ := Aside0.mk (Kd.R_below (rk HO279.out) hb); have n4_ := Aside0.mk (blk_below (g := gb257) (o := .cells #[.slice A0_0 l0_0.length c0_0] 24 (0, 0)) (bk BK257.out) hb); have n5_ := Aside0.mk (blk_below (g := gb266) (o := .cells #[.slice Ao20 t262.length co20] 28 (0, 0)) (bk BK266.out) hb); have n6_ := Aside0.mk (blk_below (g := gb270) (o := .cells #[.slice Ao26 t267.length co26] 28 (0, 0)) (bk BK270.out) hb); have n7_ := Aside0.mk (blk_below (g := gb275) (o := .cells #[.slice Ao32 t271.length co32] 28 (0, 0)) (bk BK275.out) hb); have n8_ := Aside0.mk (below_step (hB HB.out) hb); clear HO_267000; clear HO_271000; clear HO_276000; clear HO279; clear BK257; clear BK266; clear BK270; clear BK275; clear HB; have HO_267000 := n0_; have HO_271000 := n1_; have HO_276000 := n2_; have HO279 := n3_; have BK257 := n4_; have BK266 := n5_; have BK270 := n6_; have BK275 := n7_; have HB := n8_; clear n0_ n1_ n2_ n3_ n4_ n5_ n6_ n7_ n8_; (try clear hb); (try clear hb2); (try clear hk); (try clear hi)))
         go_meet
         case rel => exact ⟨_, ((t274 != t265)), (by first | rfl | (simp; done) | (simp [*]; done)), H', ⟨by have := HJ10.out; first | omega | exact Nat.le_refl _⟩, ⟨rk (Kd.R_mono HO_267000.out (fun _ hk => ⟨hk.1, hk.2.1⟩))⟩, ⟨rk (Kd.R_mono HO_271000.out (fun _ hk => ⟨hk.1.1, hk.1.2⟩))⟩, ⟨rk (Kd.R_mono HO_276000.out (fun _ hk => ⟨hk.1, hk.2.1⟩))⟩, ⟨bk BK257.out⟩, ⟨bk BK266.out⟩, ⟨bk BK270.out⟩, ⟨bk BK275.out⟩, ⟨hB HB.out⟩⟩
        ·replace c72 := Bool.eq_false_iff.mpr c72
         subst c72
         have H1 : (laws_FnExactHarderPuzzle.j1 kj10 t265 true l0_0 t262 t271) = some r := by rw [if_neg (show ¬ (false = true) by decide)] at H; exact H
         clear H
         have H := H1
         clear H1
         have H' := Aside0.mk H
         clear H
         have hnb81 := NB275_257.out
         have hnc81 := NB257_275.out
         have hnb82 := NB275_266.out
         have hnc82 := NB266_275.out
         have hnb83 := NB275_270.out
         have hnc83 := NB270_275.out
         have hcz84_0 : w69.cell? ⟨gb275, 0, none⟩ = some (.slice Ao32 t271.length co32) := (blk_cell BK275.out 0).trans rfl
         have hfz84_0 := blk_frozen BK275.out 0
         have hnb85 := NB266_257.out
         have hnc85 := NB257_266.out
         have hnb86 := NB266_270.out
         have hnc86 := NB270_266.out
         have hcz87_0 : w69.cell? ⟨gb266, 0, none⟩ = some (.slice Ao20 t262.length co20) := (blk_cell BK266.out 0).trans rfl
         have hfz87_0 := blk_frozen BK266.out 0
         go_wp2_with (first | (go_at_call 11; (with_reducible refine (laws_eqPuzzle.calls kj10 _ _ t271 _ _ t262 false _ ?side1 ?side2 ?side3 ?side4 A71.out).mono ?_); (case side1 => repeat (first | exact (Kd.R_reads' HO_276000.out).2.2 | (with_reducible refine Kd.C_alloc ?_ _) | (with_reducible refine Kd.C_drewN ?_ _) | (with_reducible refine Kd.C_drew ?_))); (case side2 => exact (Kd.R_reads' HO_276000.out).2.1); (case side3 => repeat (first | exact (Kd.R_reads' HO_267000.out).2.2 | (with_reducible refine Kd.C_alloc ?_ _) | (with_reducible refine Kd.C_drewN ?_ _) | (with_reducible refine Kd.C_drew ?_))); (case side4 => exact (Kd.R_reads' HO_267000.out).2.1); rintro e w88 ⟨rfl, hb⟩; have n0_ := Aside0.mk (Kd.R_below (rk HO_267000.out) hb); have n1_ := Aside0.mk (Kd.R_below (rk HO_271000.out) hb); have n2_ := Aside0.mk (Kd.R_below (rk HO_276000.out) hb); have n3_ := Aside0.mk (Kd.R_below (rk HO279.out) hb); have n4_ := Aside0.mk (blk_below (g := gb257) (o := .cells #[.slice A0_0 l0_0.length c0_0] 24 (0, 0)) (bk BK257.out) hb); have n5_ := Aside0.mk (blk_below (g := gb266) (o := .cells #[.slice Ao20 t262.length co20] 28 (0, 0)) (bk BK266.out) hb); have n6_ := Aside0.mk (blk_below (g := gb270) (o := .cells #[.slice Ao26 t267.length co26] 28 (0, 0)) (bk BK270.out) hb); have n7_ := Aside0.mk (blk_below (g := gb275) (o := .cells #[.slice Ao32 t271.length co32] 28 (0, 0)) (bk BK275.out) hb); have n8_ := Aside0.mk (below_step (hB HB.out) hb); clear HO_267000; clear HO_271000; clear HO_276000; clear HO279; clear BK257; clear BK266; clear BK270; clear BK275; clear HB; have HO_267000 := n0_; have HO_271000 := n1_; have HO_276000 := n2_; have HO279 := n3_; have BK257 := n4_; have BK266 := n5_; have BK270 := n6_; have BK275 := n7_; have HB := n8_; clear n0_ n1_ n2_ n3_ n4_ n5_ n6_ n7_ n8_; (try clear hb); (try clear hb2); (try clear hk); (try clear hi)))
         go_meet
         case rel => exact ⟨_, (true), (by first | rfl | (simp; done) | (simp [*]; done)), H', ⟨by have := HJ10.out; first | omega | exact Nat.le_refl _⟩, ⟨rk (Kd.R_mono HO_267000.out (fun _ hk => ⟨hk.1, hk.2.1⟩))⟩, ⟨rk (Kd.R_mono HO_271000.out (fun _ hk => ⟨hk.1.1, hk.1.2⟩))⟩, ⟨rk (Kd.R_mono HO_276000.out (fun _ hk => ⟨hk.1, hk.2.1⟩))⟩, ⟨bk BK257.out⟩, ⟨bk BK266.out⟩, ⟨bk BK270.out⟩, ⟨bk BK275.out⟩, ⟨hB HB.out⟩⟩
      case rest =>
       clear HC60
       try clear c1
       try clear c2
       try clear p2
       try clear c3
       try clear c3b0
       try clear c4
       try clear c5
       try clear c6
       try clear c7
       try clear c8
       try clear c9
       try clear c10
       try clear c11
       try clear c12
       try clear c21
       try clear c27
       try clear c28
       try clear c33
       try clear c34
       try clear c35
       try clear c38
       try clear c39
       try clear c40
       try clear c41
       try clear c43
       try clear c44
       try clear c47
       try clear c48
       try clear c49
       try clear c51
       try clear c52
       try clear c55
       try clear c58
       try clear c65
       try clear c66
       try clear c67
       try clear c70
       try clear c70b0
       try clear c72
       try clear c73
       try clear c74
       try clear c75
       try clear c77
       try clear c78
       try clear c81
       try clear c82
       try clear c83
       try clear c85
       try clear c86
       try clear hcz13_0
       try clear hcz15_0
       try clear hcz22_0
       try clear hcz23_0
       try clear hcz29_0
       try clear hcz36_0
       try clear hcz42_0
       try clear hcz45_0
       try clear hcz50_0
       try clear hcz53_0
       try clear hcz5_0
       try clear hcz68_0
       try clear hcz76_0
       try clear hcz79_0
       try clear hcz84_0
       try clear hcz87_0
       try clear hfz13_0
       try clear hfz15_0
       try clear hfz22_0
       try clear hfz23_0
       try clear hfz29_0
       try clear hfz36_0
       try clear hfz42_0
       try clear hfz45_0
       try clear hfz50_0
       try clear hfz53_0
       try clear hfz5_0
       try clear hfz68_0
       try clear hfz76_0
       try clear hfz79_0
       try clear hfz84_0
       try clear hfz87_0
       try clear p2
       obtain ⟨kq, x61_59, rfl, HA, HJ59, HO_267000, HO_271000, HO_276000, BK257, BK266, BK270, BK275, HB⟩ := hcut
       have hl271000_59 := (Kd.R_reads' HO_271000.out).1
       rw [hl271000_59] at HO_271000
       (try simp only [hl271000_59])
       (try simp only [hl271000_59] at BK257)
       (try simp only [hl271000_59] at BK266)
       (try simp only [hl271000_59] at BK270)
       (try simp only [hl271000_59] at BK275)
       (try simp only [hl271000_59] at HO_267000)
       (try simp only [hl271000_59] at HO_276000)
       cases kq with
       | zero => exact absurd HA.out (by simp [laws_FnExactHarderPuzzle.j1])
       | succ kj59 =>
        have H := HA.out
        clear HA
        simp only [laws_FnExactHarderPuzzle.j1] at H
        by_cases c89 : x61_59 = true
        ·subst c89
         have H1 : (some false) = some r := by rw [if_pos rfl] at H; exact H
         clear H
         have H := H1
         clear H1
         obtain rfl := Option.some.inj H
         go_wp2
         go_ret
         exact ⟨by first | rfl | (simp [errW_none, errW_some] <;> rfl) | (simp [*, errW_none, errW_some] <;> rfl), hB HB.out⟩
        ·replace c89 := Bool.eq_false_iff.mpr c89
         subst c89
         have H1 : ((laws_markPuzzle.f kj59 t271 1).bind fun bt284 => ((laws_heldPuzzle.f kj59 bt284.2 1).bind fun t286 => (if t286 < 0 then (some false) else (if t286 = bt284.1 then ((laws_toPuzzle.f kj59 l0_0).bind fun t287 => ((impl_HarderPuzzle.f kj59 t287).bind fun bt290 => ((laws_eqPuzzle.f kj59 bt290.1 t262).bind fun t295 => (if t295 = true then (laws_FnExactHarderPuzzle.j2 kj59 bt284.1 (bt290.2 != t265) bt284.2) else (laws_FnExactHarderPuzzle.j2 kj59 bt284.1 true bt284.2))))) else (some false))))) = some r := by rw [if_neg (show ¬ (false = true) by decide)] at H; exact H
         clear H
         have H := H1
         clear H1
         replace H := Option.bind_eq_some_iff.mp H
         obtain ⟨⟨t284, t285⟩, A900, H⟩ := H
         replace H : ((laws_heldPuzzle.f kj59 t285 1).bind fun t286 => (if t286 < 0 then (some false) else (if t286 = t284 then ((laws_toPuzzle.f kj59 l0_0).bind fun t287 => ((impl_HarderPuzzle.f kj59 t287).bind fun bt290 => ((laws_eqPuzzle.f kj59 bt290.1 t262).bind fun t295 => (if t295 = true then (laws_FnExactHarderPuzzle.j2 kj59 t284 (bt290.2 != t265) t285) else (laws_FnExactHarderPuzzle.j2 kj59 t284 true t285))))) else (some false)))) = some r := H
         have A90 := Aside0.mk A900
         clear A900
         replace H := Option.bind_eq_some_iff.mp H
         obtain ⟨t286, A910, H⟩ := H
         replace H : (if t286 < 0 then (some false) else (if t286 = t284 then ((laws_toPuzzle.f kj59 l0_0).bind fun t287 => ((impl_HarderPuzzle.f kj59 t287).bind fun bt290 => ((laws_eqPuzzle.f kj59 bt290.1 t262).bind fun t295 => (if t295 = true then (laws_FnExactHarderPuzzle.j2 kj59 t284 (bt290.2 != t265) t285) else (laws_FnExactHarderPuzzle.j2 kj59 t284 true t285))))) else (some false))) = some r := H
         have A91 := Aside0.mk A910
         clear A910
         by_cases c92 : t286 < 0
         ·rw [if_pos c92] at H
          have c92b0 : decide (t286 < 0) = true := decide_eq_true c92
          clear c92
          obtain rfl := Option.some.inj H
          have hnb93 := NB275_257.out
          have hnc93 := NB257_275.out
          have hnb94 := NB275_266.out
          have hnc94 := NB266_275.out
          have hnb95 := NB275_270.out
          have hnc95 := NB270_275.out
          have hcz96_0 : wc.cell? ⟨gb275, 0, none⟩ = some (.slice Ao32 t271.length co32) := (blk_cell BK275.out 0).trans rfl
          have hfz96_0 := blk_frozen BK275.out 0
          go_wp2_with (first | ((with_reducible refine gate_callee (f := 12) rfl ?_); refine goesL_ (some 64) rfl rfl Try.func12 (by kernel_rfl) rfl #[.agg #[.slice Ao32 t271.length co32], .int .i64 1] rfl (by (try simp only [List.map_toArray, List.map_cons, List.map_nil]); first | done | rfl | (simp only [List.length_drop, List.length_take]; rfl)) ?_; (with_reducible refine (laws_markPuzzle.calls kj59 (fun k_ => some k_ = (.slice Ao32 t271.length co32 : Value).ownBlock) (.slice Ao32 t271.length co32) t271 1 t284 t285 w _ ?side1 ?side2 A90.out).mono ?_); (case side1 => repeat (first | (with_reducible first | exact HB.out | apply below_alloc | apply pw_below_drewN | apply below_drew1 | refine below_set ?_ GE257.out | refine below_set ?_ GE266.out | refine below_set ?_ GE270.out | refine below_set ?_ GE275.out) | exact HB.out)); (case side2 => exact Kd.R_tight rfl HO_276000.out); rintro e w97 ⟨rfl, hy0, hb, hkp⟩; refine ⟨_, rfl, ?_⟩; have n0_ := Aside0.mk (Kd.R_mono (ok' := fun k_ => some k_ ≠ (.slice Ao26 t282.length co26 : Value).ownBlock ∧ some k_ ≠ (.slice Ao32 t271.length co32 : Value).ownBlock) (Kd.R_keptB (HO_267000.out) hkp (fun k_ hk_ hs_ => (hk_.2) hs_)) (fun k_ hk_ => ⟨hk_.1.1, hk_.1.2⟩)); have n1_ := Aside0.mk (Kd.R_mono (ok' := fun k_ => some k_ ≠ (.slice Ao20 t262.length co20 : Value).ownBlock ∧ some k_ ≠ (.slice Ao32 t271.length co32 : Value).ownBlock) (Kd.R_keptB (HO_271000.out) hkp (fun k_ hk_ hs_ => (hk_.2) hs_)) (fun k_ hk_ => ⟨hk_.1.1, hk_.1.2⟩)); have n2_ := Aside0.mk (Kd.R_reok rfl hy0 (fun k_ e_ => HO_276000.out.1 k_ e_)); have n3_ := Aside0.mk (blk_kept (bk BK257.out) hkp (fun hs_ => (fun e_ => (Kd.R_ne HO_276000.out BK257.out (by decide)) e_) hs_)); have n4_ := Aside0.mk (blk_kept (bk BK266.out) hkp (fun hs_ => (fun e_ => (Kd.R_ne HO_276000.out BK266.out (by decide)) e_) hs_)); have n5_ := Aside0.mk (blk_kept (bk BK270.out) hkp (fun hs_ => (fun e_ => (Kd.R_ne HO_276000.out BK270.out (by decide)) e_) hs_)); have n6_ := Aside0.mk (blk_kept (bk BK275.out) hkp (fun hs_ => (fun e_ => (Kd.R_ne HO_276000.out BK275.out (by decide)) e_) hs_)); have n7_ := Aside0.mk (hb); clear HO_267000; clear HO_271000; clear HO_276000; clear BK257; clear BK266; clear BK270; clear BK275; clear HB; have HO_267000 := n0_; have HO_271000 := n1_; have HO_276000 := n2_; have BK257 := n3_; have BK266 := n4_; have BK270 := n5_; have BK275 := n6_; have HB := n7_; clear n0_ n1_ n2_ n3_ n4_ n5_ n6_ n7_; (try clear hb); (try clear hkp); (try clear hy0); have hcz98_0 : w97.cell? ⟨gb275, 0, none⟩ = some (.slice Ao32 t271.length co32) := (blk_cell BK275.out 0).trans rfl; have hfz98_0 := blk_frozen BK275.out 0) | ((with_reducible refine gate_callee (f := 13) rfl ?_); refine goesL_ (some 67) rfl rfl Try.func13 (by kernel_rfl) rfl #[.agg #[.slice Ao32 t285.length co32], .int .i64 1] rfl (by (try simp only [List.map_toArray, List.map_cons, List.map_nil]); first | done | (rw [show t285.length = t271.length from (Kd.R_reads' HO_276000.out).1.symm] <;> rfl) | rfl | (simp only [List.length_drop, List.length_take]; rfl)) ?_; (with_reducible refine (laws_heldPuzzle.calls kj59 _ _ t285 1 t286 _ ?side1 ?side2 A91.out).mono ?_); (case side1 => repeat (first | exact (Kd.R_reads' HO_276000.out).2.2 | (with_reducible refine Kd.C_alloc ?_ _) | (with_reducible refine Kd.C_drewN ?_ _) | (with_reducible refine Kd.C_drew ?_))); (case side2 => rw [show t285.length = t271.length from (Kd.R_reads' HO_276000.out).1.symm]; exact (Kd.R_reads' HO_276000.out).2.1); rintro e w99 ⟨rfl, hb⟩; refine ⟨_, rfl, ?_⟩; have n0_ := Aside0.mk (Kd.R_below (rk HO_267000.out) hb); have n1_ := Aside0.mk (Kd.R_below (rk HO_271000.out) hb); have n2_ := Aside0.mk (Kd.R_below (rk HO_276000.out) hb); have n3_ := Aside0.mk (blk_below (g := gb257) (o := .cells #[.slice A0_0 l0_0.length c0_0] 24 (0, 0)) (bk BK257.out) hb); have n4_ := Aside0.mk (blk_below (g := gb266) (o := .cells #[.slice Ao20 t262.length co20] 28 (0, 0)) (bk BK266.out) hb); have n5_ := Aside0.mk (blk_below (g := gb270) (o := .cells #[.slice Ao26 t282.length co26] 28 (0, 0)) (bk BK270.out) hb); have n6_ := Aside0.mk (blk_below (g := gb275) (o := .cells #[.slice Ao32 t271.length co32] 28 (0, 0)) (bk BK275.out) hb); have n7_ := Aside0.mk (below_step (hB HB.out) hb); clear HO_267000; clear HO_271000; clear HO_276000; clear BK257; clear BK266; clear BK270; clear BK275; clear HB; have HO_267000 := n0_; have HO_271000 := n1_; have HO_276000 := n2_; have BK257 := n3_; have BK266 := n4_; have BK270 := n5_; have BK275 := n6_; have HB := n7_; clear n0_ n1_ n2_ n3_ n4_ n5_ n6_ n7_; (try clear hb); (try clear hb2); (try clear hk); (try clear hi)))
          go_ret
          exact ⟨by first | rfl | (simp [errW_none, errW_some] <;> rfl) | (simp [*, errW_none, errW_some] <;> rfl), hB HB.out⟩
         ·rw [if_neg c92] at H
          have c92b0 : decide (t286 < 0) = false := decide_eq_false c92
          clear c92
          by_cases c100 : t286 = t284
          ·rw [if_pos c100] at H
           have c100b0 : (t286 == t284) = true := beq_iff_eq.mpr c100
           have c100b1 : (t286 != t284) = false := bne_eq_false_iff_eq.mpr c100
           clear c100
           replace H := Option.bind_eq_some_iff.mp H
           obtain ⟨t287, A1010, H⟩ := H
           replace H : ((impl_HarderPuzzle.f kj59 t287).bind fun bt290 => ((laws_eqPuzzle.f kj59 bt290.1 t262).bind fun t295 => (if t295 = true then (laws_FnExactHarderPuzzle.j2 kj59 t284 (bt290.2 != t265) t285) else (laws_FnExactHarderPuzzle.j2 kj59 t284 true t285)))) = some r := H
           have A101 := Aside0.mk A1010
           clear A1010
           replace H := Option.bind_eq_some_iff.mp H
           obtain ⟨⟨t290, t293⟩, A1020, H⟩ := H
           replace H : ((laws_eqPuzzle.f kj59 t290 t262).bind fun t295 => (if t295 = true then (laws_FnExactHarderPuzzle.j2 kj59 t284 (t293 != t265) t285) else (laws_FnExactHarderPuzzle.j2 kj59 t284 true t285))) = some r := H
           have A102 := Aside0.mk A1020
           clear A1020
           have HC103 := Aside0.mk H
           clear H
           have hnb104 := NB275_257.out
           have hnc104 := NB257_275.out
           have hnb105 := NB275_266.out
           have hnc105 := NB266_275.out
           have hnb106 := NB275_270.out
           have hnc106 := NB270_275.out
           have hcz107_0 : wc.cell? ⟨gb275, 0, none⟩ = some (.slice Ao32 t271.length co32) := (blk_cell BK275.out 0).trans rfl
           have hfz107_0 := blk_frozen BK275.out 0
           go_upto_region 25 with (first | ((with_reducible refine gate_callee (f := 12) rfl ?_); refine goesL_ (some 64) rfl rfl Try.func12 (by kernel_rfl) rfl #[.agg #[.slice Ao32 t271.length co32], .int .i64 1] rfl (by (try simp only [List.map_toArray, List.map_cons, List.map_nil]); first | done | rfl | (simp only [List.length_drop, List.length_take]; rfl)) ?_; (with_reducible refine (laws_markPuzzle.calls kj59 (fun k_ => some k_ = (.slice Ao32 t271.length co32 : Value).ownBlock) (.slice Ao32 t271.length co32) t271 1 t284 t285 w _ ?side1 ?side2 A90.out).mono ?_); (case side1 => repeat (first | (with_reducible first | exact HB.out | apply below_alloc | apply pw_below_drewN | apply below_drew1 | refine below_set ?_ GE257.out | refine below_set ?_ GE266.out | refine below_set ?_ GE270.out | refine below_set ?_ GE275.out) | exact HB.out)); (case side2 => exact Kd.R_tight rfl HO_276000.out); rintro e w108 ⟨rfl, hy0, hb, hkp⟩; refine ⟨_, rfl, ?_⟩; have n0_ := Aside0.mk (Kd.R_mono (ok' := fun k_ => some k_ ≠ (.slice Ao26 t282.length co26 : Value).ownBlock ∧ some k_ ≠ (.slice Ao32 t271.length co32 : Value).ownBlock) (Kd.R_keptB (HO_267000.out) hkp (fun k_ hk_ hs_ => (hk_.2) hs_)) (fun k_ hk_ => ⟨hk_.1.1, hk_.1.2⟩)); have n1_ := Aside0.mk (Kd.R_mono (ok' := fun k_ => some k_ ≠ (.slice Ao20 t262.length co20 : Value).ownBlock ∧ some k_ ≠ (.slice Ao32 t271.length co32 : Value).ownBlock) (Kd.R_keptB (HO_271000.out) hkp (fun k_ hk_ hs_ => (hk_.2) hs_)) (fun k_ hk_ => ⟨hk_.1.1, hk_.1.2⟩)); have n2_ := Aside0.mk (Kd.R_reok rfl hy0 (fun k_ e_ => HO_276000.out.1 k_ e_)); have n3_ := Aside0.mk (blk_kept (bk BK257.out) hkp (fun hs_ => (fun e_ => (Kd.R_ne HO_276000.out BK257.out (by decide)) e_) hs_)); have n4_ := Aside0.mk (blk_kept (bk BK266.out) hkp (fun hs_ => (fun e_ => (Kd.R_ne HO_276000.out BK266.out (by decide)) e_) hs_)); have n5_ := Aside0.mk (blk_kept (bk BK270.out) hkp (fun hs_ => (fun e_ => (Kd.R_ne HO_276000.out BK270.out (by decide)) e_) hs_)); have n6_ := Aside0.mk (blk_kept (bk BK275.out) hkp (fun hs_ => (fun e_ => (Kd.R_ne HO_276000.out BK275.out (by decide)) e_) hs_)); have n7_ := Aside0.mk (hb); clear HO_267000; clear HO_271000; clear HO_276000; clear BK257; clear BK266; clear BK270; clear BK275; clear HB; have HO_267000 := n0_; have HO_271000 := n1_; have HO_276000 := n2_; have BK257 := n3_; have BK266 := n4_; have BK270 := n5_; have BK275 := n6_; have HB := n7_; clear n0_ n1_ n2_ n3_ n4_ n5_ n6_ n7_; (try clear hb); (try clear hkp); (try clear hy0); have hcz109_0 : w108.cell? ⟨gb275, 0, none⟩ = some (.slice Ao32 t271.length co32) := (blk_cell BK275.out 0).trans rfl; have hfz109_0 := blk_frozen BK275.out 0) | ((with_reducible refine gate_callee (f := 13) rfl ?_); refine goesL_ (some 67) rfl rfl Try.func13 (by kernel_rfl) rfl #[.agg #[.slice Ao32 t285.length co32], .int .i64 1] rfl (by (try simp only [List.map_toArray, List.map_cons, List.map_nil]); first | done | (rw [show t285.length = t271.length from (Kd.R_reads' HO_276000.out).1.symm] <;> rfl) | rfl | (simp only [List.length_drop, List.length_take]; rfl)) ?_; (with_reducible refine (laws_heldPuzzle.calls kj59 _ _ t285 1 t286 _ ?side1 ?side2 A91.out).mono ?_); (case side1 => repeat (first | exact (Kd.R_reads' HO_276000.out).2.2 | (with_reducible refine Kd.C_alloc ?_ _) | (with_reducible refine Kd.C_drewN ?_ _) | (with_reducible refine Kd.C_drew ?_))); (case side2 => rw [show t285.length = t271.length from (Kd.R_reads' HO_276000.out).1.symm]; exact (Kd.R_reads' HO_276000.out).2.1); rintro e w110 ⟨rfl, hb⟩; refine ⟨_, rfl, ?_⟩; have n0_ := Aside0.mk (Kd.R_below (rk HO_267000.out) hb); have n1_ := Aside0.mk (Kd.R_below (rk HO_271000.out) hb); have n2_ := Aside0.mk (Kd.R_below (rk HO_276000.out) hb); have n3_ := Aside0.mk (blk_below (g := gb257) (o := .cells #[.slice A0_0 l0_0.length c0_0] 24 (0, 0)) (bk BK257.out) hb); have n4_ := Aside0.mk (blk_below (g := gb266) (o := .cells #[.slice Ao20 t262.length co20] 28 (0, 0)) (bk BK266.out) hb); have n5_ := Aside0.mk (blk_below (g := gb270) (o := .cells #[.slice Ao26 t282.length co26] 28 (0, 0)) (bk BK270.out) hb); have n6_ := Aside0.mk (blk_below (g := gb275) (o := .cells #[.slice Ao32 t271.length co32] 28 (0, 0)) (bk BK275.out) hb); have n7_ := Aside0.mk (below_step (hB HB.out) hb); clear HO_267000; clear HO_271000; clear HO_276000; clear BK257; clear BK266; clear BK270; clear BK275; clear HB; have HO_267000 := n0_; have HO_271000 := n1_; have HO_276000 := n2_; have BK257 := n3_; have BK266 := n4_; have BK270 := n5_; have BK275 := n6_; have HB := n7_; clear n0_ n1_ n2_ n3_ n4_ n5_ n6_ n7_; (try clear hb); (try clear hb2); (try clear hk); (try clear hi); have hnb111 := NB257_266.out; have hnc111 := NB266_257.out; have hnb112 := NB257_270.out; have hnc112 := NB270_257.out; have hcz113_0 : w110.cell? ⟨gb257, 0, none⟩ = some (.slice A0_0 l0_0.length c0_0) := (blk_cell BK257.out 0).trans rfl; have hfz113_0 := blk_frozen BK257.out 0) | ((with_reducible refine gate_callee (f := 9) rfl ?_); refine goesL_ (some 75) rfl rfl Try.func9 (by kernel_rfl) rfl #[.agg #[.slice A0_0 l0_0.length c0_0]] rfl (by (try simp only [List.map_toArray, List.map_cons, List.map_nil]); first | done | rfl | (simp only [List.length_drop, List.length_take]; rfl)) ?_; (with_reducible refine (laws_toPuzzle.calls kj59 _ _ l0_0 t287 _ ?side1 ?side2 A101.out).mono ?_); (case side1 => repeat (first | exact (Kd.C_below HR0_0.out HB.out) | (with_reducible refine Kd.C_alloc ?_ _) | (with_reducible refine Kd.C_drewN ?_ _) | (with_reducible refine Kd.C_drew ?_))); (case side2 => exact HC0_0.out); rintro e w114 ⟨v288, rfl, ho0, hb⟩; refine ⟨_, rfl, ?_⟩; have n0_ := Aside0.mk (Kd.R_elder' (rk HO_267000.out) (Kd.R_base ho0) hb); have n1_ := Aside0.mk (Kd.R_elder' (rk HO_271000.out) (Kd.R_base ho0) hb); have n2_ := Aside0.mk (Kd.R_elder' (rk HO_276000.out) (Kd.R_base ho0) hb); have n3_ := Aside0.mk (Kd.R_lower (Kd.R_new' (Kd.R_new' (Kd.R_new' ho0 (Kd.R_lt (rk HO_267000.out))) (Kd.R_lt (rk HO_271000.out))) (Kd.R_lt (rk HO_276000.out))) (below_size (hB HB.out))); have n4_ := Aside0.mk (blk_below (g := gb257) (o := .cells #[.slice A0_0 l0_0.length c0_0] 24 (0, 0)) (bk BK257.out) hb); have n5_ := Aside0.mk (blk_below (g := gb266) (o := .cells #[.slice Ao20 t262.length co20] 28 (0, 0)) (bk BK266.out) hb); have n6_ := Aside0.mk (blk_below (g := gb270) (o := .cells #[.slice Ao26 t282.length co26] 28 (0, 0)) (bk BK270.out) hb); have n7_ := Aside0.mk (blk_below (g := gb275) (o := .cells #[.slice Ao32 t271.length co32] 28 (0, 0)) (bk BK275.out) hb); have n8_ := Aside0.mk (below_step (hB HB.out) hb); clear HO_267000; clear HO_271000; clear HO_276000; clear BK257; clear BK266; clear BK270; clear BK275; clear HB; have HO_267000 := n0_; have HO_271000 := n1_; have HO_276000 := n2_; have HO289 := n3_; have BK257 := n4_; have BK266 := n5_; have BK270 := n6_; have BK275 := n7_; have HB := n8_; clear n0_ n1_ n2_ n3_ n4_ n5_ n6_ n7_ n8_; (try clear hb); (try clear hb2); (try clear hk); (try clear hi); (try clear ho0); obtain ⟨Ao115, co115, eo115⟩ := Kd.R_slice HO289.out; subst eo115) | ((with_reducible refine gate_callee (f := 10) rfl ?_); refine goesL_ (some 76) rfl rfl Try.func10 (by kernel_rfl) rfl #[.agg #[.slice Ao115 t287.length co115]] rfl (by (try simp only [List.map_toArray, List.map_cons, List.map_nil]); first | done | rfl | (simp only [List.length_drop, List.length_take]; rfl)) ?_; (with_reducible refine (impl_HarderPuzzle.calls kj59 _ _ t287 t290 t293 _ ?side1 ?side2 A102.out).mono ?_); (case side1 => repeat (first | exact (Kd.R_reads' HO289.out).2.2 | (with_reducible refine Kd.C_alloc ?_ _) | (with_reducible refine Kd.C_drewN ?_ _) | (with_reducible refine Kd.C_drew ?_))); (case side2 => exact (Kd.R_reads' HO289.out).2.1); rintro e w116 ⟨v291, rfl, ho0, hb⟩; refine ⟨_, rfl, ?_⟩; have n0_ := Aside0.mk (Kd.R_elder' (rk HO_267000.out) (Kd.R_base ho0) hb); have n1_ := Aside0.mk (Kd.R_elder' (rk HO_271000.out) (Kd.R_base ho0) hb); have n2_ := Aside0.mk (Kd.R_elder' (rk HO_276000.out) (Kd.R_base ho0) hb); have n3_ := Aside0.mk (Kd.R_elder' (rk HO289.out) (Kd.R_base ho0) hb); have n4_ := Aside0.mk (Kd.R_lower (Kd.R_new' (Kd.R_new' (Kd.R_new' (Kd.R_new' ho0 (Kd.R_lt (rk HO_267000.out))) (Kd.R_lt (rk HO_271000.out))) (Kd.R_lt (rk HO_276000.out))) (Kd.R_lt (rk HO289.out))) (below_size (hB HB.out))); have n5_ := Aside0.mk (blk_below (g := gb257) (o := .cells #[.slice A0_0 l0_0.length c0_0] 24 (0, 0)) (bk BK257.out) hb); have n6_ := Aside0.mk (blk_below (g := gb266) (o := .cells #[.slice Ao20 t262.length co20] 28 (0, 0)) (bk BK266.out) hb); have n7_ := Aside0.mk (blk_below (g := gb270) (o := .cells #[.slice Ao26 t282.length co26] 28 (0, 0)) (bk BK270.out) hb); have n8_ := Aside0.mk (blk_below (g := gb275) (o := .cells #[.slice Ao32 t271.length co32] 28 (0, 0)) (bk BK275.out) hb); have n9_ := Aside0.mk (below_step (hB HB.out) hb); clear HO_267000; clear HO_271000; clear HO_276000; clear HO289; clear BK257; clear BK266; clear BK270; clear BK275; clear HB; have HO_267000 := n0_; have HO_271000 := n1_; have HO_276000 := n2_; have HO289 := n3_; have HO292 := n4_; have BK257 := n5_; have BK266 := n6_; have BK270 := n7_; have BK275 := n8_; have HB := n9_; clear n0_ n1_ n2_ n3_ n4_ n5_ n6_ n7_ n8_ n9_; (try clear hb); (try clear hb2); (try clear hk); (try clear hi); (try clear ho0)) | ((with_reducible refine gate_dst (N := 12) rfl ?_); refine box_event ?hg (N := 12) ?hd (cs := #[.slice none 0 0]) (t := 28) ?hr ?_; (case hd => rfl); (case hg => rfl); (case hr => first | (go_simp; done) | (go_simp; rfl)); intro gb294 hg w117 hbox hb; have n0_ := Aside0.mk (Kd.R_below (rk HO_267000.out) hb); have n1_ := Aside0.mk (Kd.R_below (rk HO_271000.out) hb); have n2_ := Aside0.mk (Kd.R_below (rk HO_276000.out) hb); have n3_ := Aside0.mk (Kd.R_below (rk HO289.out) hb); have n4_ := Aside0.mk (Kd.R_below (rk HO292.out) hb); have n5_ := Aside0.mk (blk_below (g := gb257) (o := .cells #[.slice A0_0 l0_0.length c0_0] 24 (0, 0)) (bk BK257.out) hb); have n6_ := Aside0.mk (blk_below (g := gb266) (o := .cells #[.slice Ao20 t262.length co20] 28 (0, 0)) (bk BK266.out) hb); have n7_ := Aside0.mk (blk_below (g := gb270) (o := .cells #[.slice Ao26 t282.length co26] 28 (0, 0)) (bk BK270.out) hb); have n8_ := Aside0.mk (blk_below (g := gb275) (o := .cells #[.slice Ao32 t271.length co32] 28 (0, 0)) (bk BK275.out) hb); have n9_ := Aside0.mk (below_step (hB HB.out) hb); have n10_ := Aside0.mk (hbox); have n11_ := Aside0.mk ((by rw [hg]; exact (below_size (hB HB.out)) : w.heap.size ≤ gb294)); have n12_ := Aside0.mk ((by rw [hg]; exact (below_size (hB HB.out)) : w.heap.size ≤ gb294)); have n13_ := Aside0.mk ((by rw [hg]; exact Nat.ne_of_lt (blk_lt (g := gb257) (o := .cells #[.slice A0_0 l0_0.length c0_0] 24 (0, 0)) (bk BK257.out)) : gb257 ≠ gb294)); have n14_ := Aside0.mk ((by rw [hg]; exact Nat.ne_of_gt (blk_lt (g := gb257) (o := .cells #[.slice A0_0 l0_0.length c0_0] 24 (0, 0)) (bk BK257.out)) : gb294 ≠ gb257)); have n15_ := Aside0.mk ((by rw [hg]; exact Nat.ne_of_lt (blk_lt (g := gb266) (o := .cells #[.slice Ao20 t262.length co20] 28 (0, 0)) (bk BK266.out)) : gb266 ≠ gb294)); have n16_ := Aside0.mk ((by rw [hg]; exact Nat.ne_of_gt (blk_lt (g := gb266) (o := .cells #[.slice Ao20 t262.length co20] 28 (0, 0)) (bk BK266.out)) : gb294 ≠ gb266)); have n17_ := Aside0.mk ((by rw [hg]; exact Nat.ne_of_lt (blk_lt (g := gb270) (o := .cells #[.slice Ao26 t282.length co26] 28 (0, 0)) (bk BK270.out)) : gb270 ≠ gb294)); have n18_ := Aside0.mk ((by rw [hg]; exact Nat.ne_of_gt (blk_lt (g := gb270) (o := .cells #[.slice Ao26 t282.length co26] 28 (0, 0)) (bk BK270.out)) : gb294 ≠ gb270)); have n19_ := Aside0.mk ((by rw [hg]; exact Nat.ne_of_lt (blk_lt (g := gb275) (o := .cells #[.slice Ao32 t271.length co32] 28 (0, 0)) (bk BK275.out)) : gb275 ≠ gb294)); have n20_ := Aside0.mk ((by rw [hg]; exact Nat.ne_of_gt (blk_lt (g := gb275) (o := .cells #[.slice Ao32 t271.length co32] 28 (0, 0)) (bk BK275.out)) : gb294 ≠ gb275)); clear HO_267000; clear HO_271000; clear HO_276000; clear HO289; clear HO292; clear BK257; clear BK266; clear BK270; clear BK275; clear HB; have HO_267000 := n0_; have HO_271000 := n1_; have HO_276000 := n2_; have HO289 := n3_; have HO292 := n4_; have BK257 := n5_; have BK266 := n6_; have BK270 := n7_; have BK275 := n8_; have HB := n9_; have BK294 := n10_; have GW294 := n11_; have GE294 := n12_; have NB257_294 := n13_; have NB294_257 := n14_; have NB266_294 := n15_; have NB294_266 := n16_; have NB270_294 := n17_; have NB294_270 := n18_; have NB275_294 := n19_; have NB294_275 := n20_; clear n0_ n1_ n2_ n3_ n4_ n5_ n6_ n7_ n8_ n9_ n10_ n11_ n12_ n13_ n14_ n15_ n16_ n17_ n18_ n19_ n20_; clear hb hbox hg; obtain ⟨Ao118, co118, eo118⟩ := Kd.R_slice HO292.out; subst eo118; have hnb119 := NB294_257.out; have hnc119 := NB257_294.out; have hnb120 := NB294_266.out; have hnc120 := NB266_294.out; have hnb121 := NB294_270.out; have hnc121 := NB270_294.out; have hnb122 := NB294_275.out; have hnc122 := NB275_294.out; have hcz123_0 : w117.cell? ⟨gb294, 0, none⟩ = some (.slice none 0 0) := (blk_cell BK294.out 0).trans rfl; have hfz123_0 := blk_frozen BK294.out 0))
           (try simp only [Act.put, List.setIfInBounds_toArray, List.set_cons_zero, List.set_cons_succ])
           go_cut [87] (fun v87 wc => ∃ (kq : Nat) (x87_102 : Bool), v87 = .bool x87_102 ∧ Aside0 (laws_FnExactHarderPuzzle.j2 kq t284 x87_102 t285 = some r) ∧ Aside0 (kq ≤ kj59) ∧ Aside0 (Kd.R k43 43 wc w.heap.size (fun k_ => some k_ ≠ ((.slice Ao26 t282.length co26) : Value).ownBlock ∧ some k_ ≠ ((.slice Ao32 t271.length co32) : Value).ownBlock ∧ some k_ ≠ ((.slice Ao118 t290.length co118) : Value).ownBlock) (.slice Ao20 t262.length co20) t262) ∧ Aside0 (Kd.R k43 43 wc w.heap.size (fun k_ => some k_ ≠ ((.slice Ao20 t262.length co20) : Value).ownBlock ∧ some k_ ≠ ((.slice Ao32 t271.length co32) : Value).ownBlock ∧ some k_ ≠ ((.slice Ao118 t290.length co118) : Value).ownBlock) (.slice Ao26 t282.length co26) t282) ∧ Aside0 (Kd.R k43 43 wc w.heap.size (fun k_ => some k_ ≠ ((.slice Ao20 t262.length co20) : Value).ownBlock ∧ some k_ ≠ ((.slice Ao26 t282.length co26) : Value).ownBlock ∧ some k_ ≠ ((.slice Ao118 t290.length co118) : Value).ownBlock) (.slice Ao32 t271.length co32) t285) ∧ Aside0 (Kd.R k43 43 wc w.heap.size (fun k_ => some k_ ≠ ((.slice Ao20 t262.length co20) : Value).ownBlock ∧ some k_ ≠ ((.slice Ao26 t282.length co26) : Value).ownBlock ∧ some k_ ≠ ((.slice Ao32 t271.length co32) : Value).ownBlock) (.slice Ao118 t290.length co118) t290) ∧ Aside0 (wc.heap[gb257]? = some (.cells #[(.slice A0_0 l0_0.length c0_0)] 24 (0, 0))) ∧ Aside0 (wc.heap[gb266]? = some (.cells #[(.slice Ao20 t262.length co20)] 28 (0, 0))) ∧ Aside0 (wc.heap[gb270]? = some (.cells #[(.slice Ao26 t282.length co26)] 28 (0, 0))) ∧ Aside0 (wc.heap[gb275]? = some (.cells #[(.slice Ao32 t271.length co32)] 28 (0, 0))) ∧ Aside0 (wc.heap[gb294]? = some (.cells #[(.slice Ao118 t290.length co118)] 28 (0, 0))) ∧ Aside0 (Below w.heap.size w wc))
           case first =>
            have H := HC103.out
            clear HC103
            replace H := Option.bind_eq_some_iff.mp H
            obtain ⟨t295, A1240, H⟩ := H
            replace H : (if t295 = true then (laws_FnExactHarderPuzzle.j2 kj59 t284 (t293 != t265) t285) else (laws_FnExactHarderPuzzle.j2 kj59 t284 true t285)) = some r := H
            have A124 := Aside0.mk A1240
            clear A1240
            by_cases c125 : t295 = true
            ·subst c125
             have H1 : (laws_FnExactHarderPuzzle.j2 kj59 t284 (t293 != t265) t285) = some r := by rw [if_pos rfl] at H; exact H
             clear H
             have H := H1
             clear H1
             have H' := Aside0.mk H
             clear H
             have hnb126 := NB294_257.out
             have hnc126 := NB257_294.out
             have hnb127 := NB294_266.out
             have hnc127 := NB266_294.out
             have hnb128 := NB294_270.out
             have hnc128 := NB270_294.out
             have hnb129 := NB294_275.out
             have hnc129 := NB275_294.out
             have hcz130_0 : w117.cell? ⟨gb294, 0, none⟩ = some (.slice none 0 0) := (blk_cell BK294.out 0).trans rfl
             have hfz130_0 := blk_frozen BK294.out 0
             have hnb131 := NB266_257.out
             have hnc131 := NB257_266.out
             have hnb132 := NB266_270.out
             have hnc132 := NB270_266.out
             have hnb133 := NB266_275.out
             have hnc133 := NB275_266.out
             have hcz134_0 : w117.cell? ⟨gb266, 0, none⟩ = some (.slice Ao20 t262.length co20) := (blk_cell BK266.out 0).trans rfl
             have hfz134_0 := blk_frozen BK266.out 0
             go_wp2_with (first | ((with_reducible refine gate_callee (f := 11) rfl ?_); refine goesL_ (some 81) rfl rfl Try.func11 (by kernel_rfl) rfl #[.agg #[.slice Ao118 t290.length co118], .agg #[.slice Ao20 t262.length co20]] rfl (by (try simp only [List.map_toArray, List.map_cons, List.map_nil]); first | done | rfl | (simp only [List.length_drop, List.length_take]; rfl)) ?_; (with_reducible refine (laws_eqPuzzle.calls kj59 _ _ t290 _ _ t262 true _ ?side1 ?side2 ?side3 ?side4 A124.out).mono ?_); (case side1 => refine (Kd.R_reads' (e := 43) (base := w.heap.size) (ok := fun k_ => ((((True ∧ some k_ ≠ (.slice Ao20 t262.length co20 : Value).ownBlock) ∧ some k_ ≠ (.slice Ao26 t282.length co26 : Value).ownBlock) ∧ some k_ ≠ (.slice Ao32 t271.length co32 : Value).ownBlock) ∧ some k_ ≠ (.slice Ao115 t287.length co115 : Value).ownBlock)) (n := t290.length) (c := co118) ?_).2.2; exact (rk (Kd.R_mono (Kd.R_far (p := ⟨gb294, 0, none⟩) (Kd.R_types HO292.out BK294.out (by decide)) (fun _ hk => hk.2) (.slice Ao118 t290.length co118)) (fun _ h_ => h_.1)))); (case side2 => exact (Kd.R_reads' HO292.out).2.1); (case side3 => refine (Kd.R_reads' (e := 43) (base := w.heap.size) (ok := fun k_ => (((some k_ ≠ (.slice Ao26 t282.length co26 : Value).ownBlock ∧ some k_ ≠ (.slice Ao32 t271.length co32 : Value).ownBlock) ∧ some k_ ≠ (.slice Ao115 t287.length co115 : Value).ownBlock) ∧ some k_ ≠ (.slice Ao118 t290.length co118 : Value).ownBlock)) (n := t262.length) (c := co20) ?_).2.2; exact (rk (Kd.R_mono (Kd.R_far (p := ⟨gb294, 0, none⟩) (Kd.R_types HO_267000.out BK294.out (by decide)) (fun _ hk => hk.2) (.slice Ao118 t290.length co118)) (fun _ h_ => h_.1)))); (case side4 => exact (Kd.R_reads' HO_267000.out).2.1); rintro e w135 ⟨rfl, hb⟩; refine ⟨_, rfl, ?_⟩; have n0_ := Aside0.mk (Kd.R_below (rk (Kd.R_mono (Kd.R_far (p := ⟨gb294, 0, none⟩) (Kd.R_types HO_267000.out BK294.out (by decide)) (fun _ hk => hk.2) (.slice Ao118 t290.length co118)) (fun _ h_ => h_.1))) hb); have n1_ := Aside0.mk (Kd.R_below (rk (Kd.R_mono (Kd.R_far (p := ⟨gb294, 0, none⟩) (Kd.R_types HO_271000.out BK294.out (by decide)) (fun _ hk => hk.2) (.slice Ao118 t290.length co118)) (fun _ h_ => h_.1))) hb); have n2_ := Aside0.mk (Kd.R_below (rk (Kd.R_mono (Kd.R_far (p := ⟨gb294, 0, none⟩) (Kd.R_types HO_276000.out BK294.out (by decide)) (fun _ hk => hk.2) (.slice Ao118 t290.length co118)) (fun _ h_ => h_.1))) hb); have n3_ := Aside0.mk (Kd.R_below (rk (Kd.R_mono (Kd.R_far (p := ⟨gb294, 0, none⟩) (Kd.R_types HO289.out BK294.out (by decide)) (fun _ hk => hk.2) (.slice Ao118 t290.length co118)) (fun _ h_ => h_.1))) hb); have n4_ := Aside0.mk (Kd.R_below (rk (Kd.R_mono (Kd.R_far (p := ⟨gb294, 0, none⟩) (Kd.R_types HO292.out BK294.out (by decide)) (fun _ hk => hk.2) (.slice Ao118 t290.length co118)) (fun _ h_ => h_.1))) hb); have n5_ := Aside0.mk (blk_below (g := gb257) (o := .cells #[.slice A0_0 l0_0.length c0_0] 24 (0, 0)) (by (with_reducible repeat (first | refine blk_drewN ?_ _ | refine blk_drew ?_ | refine blk_alloc ?_ _)); refine blk_far ?_ NB257_294.out _; (with_reducible repeat (first | refine blk_drewN ?_ _ | refine blk_drew ?_ | refine blk_alloc ?_ _)); exact BK257.out) hb); have n6_ := Aside0.mk (blk_below (g := gb266) (o := .cells #[.slice Ao20 t262.length co20] 28 (0, 0)) (by (with_reducible repeat (first | refine blk_drewN ?_ _ | refine blk_drew ?_ | refine blk_alloc ?_ _)); refine blk_far ?_ NB266_294.out _; (with_reducible repeat (first | refine blk_drewN ?_ _ | refine blk_drew ?_ | refine blk_alloc ?_ _)); exact BK266.out) hb); have n7_ := Aside0.mk (blk_below (g := gb270) (o := .cells #[.slice Ao26 t282.length co26] 28 (0, 0)) (by (with_reducible repeat (first | refine blk_drewN ?_ _ | refine blk_drew ?_ | refine blk_alloc ?_ _)); refine blk_far ?_ NB270_294.out _; (with_reducible repeat (first | refine blk_drewN ?_ _ | refine blk_drew ?_ | refine blk_alloc ?_ _)); exact BK270.out) hb); have n8_ := Aside0.mk (blk_below (g := gb275) (o := .cells #[.slice Ao32 t271.length co32] 28 (0, 0)) (by (with_reducible repeat (first | refine blk_drewN ?_ _ | refine blk_drew ?_ | refine blk_alloc ?_ _)); refine blk_far ?_ NB275_294.out _; (with_reducible repeat (first | refine blk_drewN ?_ _ | refine blk_drew ?_ | refine blk_alloc ?_ _)); exact BK275.out) hb); have n9_ := Aside0.mk (blk_below (g := gb294) (o := .cells #[.slice Ao118 t290.length co118] 28 (0, 0)) (by (with_reducible repeat (first | refine blk_drewN ?_ _ | refine blk_drew ?_ | refine blk_alloc ?_ _)); refine blk_put (cs := #[.slice none 0 0]) ?_ 0 _ rfl; (with_reducible repeat (first | refine blk_drewN ?_ _ | refine blk_drew ?_ | refine blk_alloc ?_ _)); exact BK294.out) hb); have n10_ := Aside0.mk (below_step (hB HB.out) hb); clear HO_267000; clear HO_271000; clear HO_276000; clear HO289; clear HO292; clear BK257; clear BK266; clear BK270; clear BK275; clear BK294; clear HB; have HO_267000 := n0_; have HO_271000 := n1_; have HO_276000 := n2_; have HO289 := n3_; have HO292 := n4_; have BK257 := n5_; have BK266 := n6_; have BK270 := n7_; have BK275 := n8_; have BK294 := n9_; have HB := n10_; clear n0_ n1_ n2_ n3_ n4_ n5_ n6_ n7_ n8_ n9_ n10_; (try clear hb); (try clear hb2); (try clear hk); (try clear hi)))
             go_meet
             case rel => exact ⟨_, ((t293 != t265)), (by first | rfl | (simp; done) | (simp [*]; done)), H', ⟨by have := HJ10.out; have := HJ59.out; first | omega | exact Nat.le_refl _⟩, ⟨by (try simp only [hl271000_59]); (with_reducible repeat (first | apply Kd.R_alloc | apply Kd.R_drewN | apply Kd.R_drew)); exact Kd.R_mono HO_267000.out (fun _ hk => ⟨hk.1.1.1, ⟨hk.1.1.2, hk.2⟩⟩)⟩, ⟨by (try simp only [hl271000_59]); (with_reducible repeat (first | apply Kd.R_alloc | apply Kd.R_drewN | apply Kd.R_drew)); exact Kd.R_mono HO_271000.out (fun _ hk => ⟨hk.1.1.1, ⟨hk.1.1.2, hk.2⟩⟩)⟩, ⟨by (try simp only [hl271000_59]); (with_reducible repeat (first | apply Kd.R_alloc | apply Kd.R_drewN | apply Kd.R_drew)); exact Kd.R_mono HO_276000.out (fun _ hk => ⟨hk.1.1.1, ⟨hk.1.1.2, hk.2⟩⟩)⟩, ⟨by (try simp only [hl271000_59]); (with_reducible repeat (first | apply Kd.R_alloc | apply Kd.R_drewN | apply Kd.R_drew)); exact Kd.R_mono HO292.out (fun _ hk => ⟨hk.1.1.1.2, ⟨hk.1.1.2, hk.1.2⟩⟩)⟩, ⟨by (try simp only [hl271000_59]); (with_reducible repeat (first | refine blk_drewN ?_ _ | refine blk_drew ?_ | refine blk_alloc ?_ _)); exact BK257.out⟩, ⟨by (try simp only [hl271000_59]); (with_reducible repeat (first | refine blk_drewN ?_ _ | refine blk_drew ?_ | refine blk_alloc ?_ _)); exact BK266.out⟩, ⟨by (try simp only [hl271000_59]); (with_reducible repeat (first | refine blk_drewN ?_ _ | refine blk_drew ?_ | refine blk_alloc ?_ _)); exact BK270.out⟩, ⟨by (try simp only [hl271000_59]); (with_reducible repeat (first | refine blk_drewN ?_ _ | refine blk_drew ?_ | refine blk_alloc ?_ _)); exact BK275.out⟩, ⟨by (try simp only [hl271000_59]); (with_reducible repeat (first | refine blk_drewN ?_ _ | refine blk_drew ?_ | refine blk_alloc ?_ _)); exact BK294.out⟩, ⟨hB HB.out⟩⟩
            ·replace c125 := Bool.eq_false_iff.mpr c125
             subst c125
             have H1 : (laws_FnExactHarderPuzzle.j2 kj59 t284 true t285) = some r := by rw [if_neg (show ¬ (false = true) by decide)] at H; exact H
             clear H
             have H := H1
             clear H1
             have H' := Aside0.mk H
             clear H
             have hnb136 := NB294_257.out
             have hnc136 := NB257_294.out
             have hnb137 := NB294_266.out
             have hnc137 := NB266_294.out
             have hnb138 := NB294_270.out
             have hnc138 := NB270_294.out
             have hnb139 := NB294_275.out
             have hnc139 := NB275_294.out
             have hcz140_0 : w117.cell? ⟨gb294, 0, none⟩ = some (.slice none 0 0) := (blk_cell BK294.out 0).trans rfl
             have hfz140_0 := blk_frozen BK294.out 0
             have hnb141 := NB266_257.out
             have hnc141 := NB257_266.out
             have hnb142 := NB266_270.out
             have hnc142 := NB270_266.out
             have hnb143 := NB266_275.out
             have hnc143 := NB275_266.out
             have hcz144_0 : w117.cell? ⟨gb266, 0, none⟩ = some (.slice Ao20 t262.length co20) := (blk_cell BK266.out 0).trans rfl
             have hfz144_0 := blk_frozen BK266.out 0
             go_wp2_with (first | ((with_reducible refine gate_callee (f := 11) rfl ?_); refine goesL_ (some 81) rfl rfl Try.func11 (by kernel_rfl) rfl #[.agg #[.slice Ao118 t290.length co118], .agg #[.slice Ao20 t262.length co20]] rfl (by (try simp only [List.map_toArray, List.map_cons, List.map_nil]); first | done | rfl | (simp only [List.length_drop, List.length_take]; rfl)) ?_; (with_reducible refine (laws_eqPuzzle.calls kj59 _ _ t290 _ _ t262 false _ ?side1 ?side2 ?side3 ?side4 A124.out).mono ?_); (case side1 => refine (Kd.R_reads' (e := 43) (base := w.heap.size) (ok := fun k_ => ((((True ∧ some k_ ≠ (.slice Ao20 t262.length co20 : Value).ownBlock) ∧ some k_ ≠ (.slice Ao26 t282.length co26 : Value).ownBlock) ∧ some k_ ≠ (.slice Ao32 t271.length co32 : Value).ownBlock) ∧ some k_ ≠ (.slice Ao115 t287.length co115 : Value).ownBlock)) (n := t290.length) (c := co118) ?_).2.2; exact (rk (Kd.R_mono (Kd.R_far (p := ⟨gb294, 0, none⟩) (Kd.R_types HO292.out BK294.out (by decide)) (fun _ hk => hk.2) (.slice Ao118 t290.length co118)) (fun _ h_ => h_.1)))); (case side2 => exact (Kd.R_reads' HO292.out).2.1); (case side3 => refine (Kd.R_reads' (e := 43) (base := w.heap.size) (ok := fun k_ => (((some k_ ≠ (.slice Ao26 t282.length co26 : Value).ownBlock ∧ some k_ ≠ (.slice Ao32 t271.length co32 : Value).ownBlock) ∧ some k_ ≠ (.slice Ao115 t287.length co115 : Value).ownBlock) ∧ some k_ ≠ (.slice Ao118 t290.length co118 : Value).ownBlock)) (n := t262.length) (c := co20) ?_).2.2; exact (rk (Kd.R_mono (Kd.R_far (p := ⟨gb294, 0, none⟩) (Kd.R_types HO_267000.out BK294.out (by decide)) (fun _ hk => hk.2) (.slice Ao118 t290.length co118)) (fun _ h_ => h_.1)))); (case side4 => exact (Kd.R_reads' HO_267000.out).2.1); rintro e w145 ⟨rfl, hb⟩; refine ⟨_, rfl, ?_⟩; have n0_ := Aside0.mk (Kd.R_below (rk (Kd.R_mono (Kd.R_far (p := ⟨gb294, 0, none⟩) (Kd.R_types HO_267000.out BK294.out (by decide)) (fun _ hk => hk.2) (.slice Ao118 t290.length co118)) (fun _ h_ => h_.1))) hb); have n1_ := Aside0.mk (Kd.R_below (rk (Kd.R_mono (Kd.R_far (p := ⟨gb294, 0, none⟩) (Kd.R_types HO_271000.out BK294.out (by decide)) (fun _ hk => hk.2) (.slice Ao118 t290.length co118)) (fun _ h_ => h_.1))) hb); have n2_ := Aside0.mk (Kd.R_below (rk (Kd.R_mono (Kd.R_far (p := ⟨gb294, 0, none⟩) (Kd.R_types HO_276000.out BK294.out (by decide)) (fun _ hk => hk.2) (.slice Ao118 t290.length co118)) (fun _ h_ => h_.1))) hb); have n3_ := Aside0.mk (Kd.R_below (rk (Kd.R_mono (Kd.R_far (p := ⟨gb294, 0, none⟩) (Kd.R_types HO289.out BK294.out (by decide)) (fun _ hk => hk.2) (.slice Ao118 t290.length co118)) (fun _ h_ => h_.1))) hb); have n4_ := Aside0.mk (Kd.R_below (rk (Kd.R_mono (Kd.R_far (p := ⟨gb294, 0, none⟩) (Kd.R_types HO292.out BK294.out (by decide)) (fun _ hk => hk.2) (.slice Ao118 t290.length co118)) (fun _ h_ => h_.1))) hb); have n5_ := Aside0.mk (blk_below (g := gb257) (o := .cells #[.slice A0_0 l0_0.length c0_0] 24 (0, 0)) (by (with_reducible repeat (first | refine blk_drewN ?_ _ | refine blk_drew ?_ | refine blk_alloc ?_ _)); refine blk_far ?_ NB257_294.out _; (with_reducible repeat (first | refine blk_drewN ?_ _ | refine blk_drew ?_ | refine blk_alloc ?_ _)); exact BK257.out) hb); have n6_ := Aside0.mk (blk_below (g := gb266) (o := .cells #[.slice Ao20 t262.length co20] 28 (0, 0)) (by (with_reducible repeat (first | refine blk_drewN ?_ _ | refine blk_drew ?_ | refine blk_alloc ?_ _)); refine blk_far ?_ NB266_294.out _; (with_reducible repeat (first | refine blk_drewN ?_ _ | refine blk_drew ?_ | refine blk_alloc ?_ _)); exact BK266.out) hb); have n7_ := Aside0.mk (blk_below (g := gb270) (o := .cells #[.slice Ao26 t282.length co26] 28 (0, 0)) (by (with_reducible repeat (first | refine blk_drewN ?_ _ | refine blk_drew ?_ | refine blk_alloc ?_ _)); refine blk_far ?_ NB270_294.out _; (with_reducible repeat (first | refine blk_drewN ?_ _ | refine blk_drew ?_ | refine blk_alloc ?_ _)); exact BK270.out) hb); have n8_ := Aside0.mk (blk_below (g := gb275) (o := .cells #[.slice Ao32 t271.length co32] 28 (0, 0)) (by (with_reducible repeat (first | refine blk_drewN ?_ _ | refine blk_drew ?_ | refine blk_alloc ?_ _)); refine blk_far ?_ NB275_294.out _; (with_reducible repeat (first | refine blk_drewN ?_ _ | refine blk_drew ?_ | refine blk_alloc ?_ _)); exact BK275.out) hb); have n9_ := Aside0.mk (blk_below (g := gb294) (o := .cells #[.slice Ao118 t290.length co118] 28 (0, 0)) (by (with_reducible repeat (first | refine blk_drewN ?_ _ | refine blk_drew ?_ | refine blk_alloc ?_ _)); refine blk_put (cs := #[.slice none 0 0]) ?_ 0 _ rfl; (with_reducible repeat (first | refine blk_drewN ?_ _ | refine blk_drew ?_ | refine blk_alloc ?_ _)); exact BK294.out) hb); have n10_ := Aside0.mk (below_step (hB HB.out) hb); clear HO_267000; clear HO_271000; clear HO_276000; clear HO289; clear HO292; clear BK257; clear BK266; clear BK270; clear BK275; clear BK294; clear HB; have HO_267000 := n0_; have HO_271000 := n1_; have HO_276000 := n2_; have HO289 := n3_; have HO292 := n4_; have BK257 := n5_; have BK266 := n6_; have BK270 := n7_; have BK275 := n8_; have BK294 := n9_; have HB := n10_; clear n0_ n1_ n2_ n3_ n4_ n5_ n6_ n7_ n8_ n9_ n10_; (try clear hb); (try clear hb2); (try clear hk); (try clear hi)))
             go_meet
             case rel => exact ⟨_, (true), (by first | rfl | (simp; done) | (simp [*]; done)), H', ⟨by have := HJ10.out; have := HJ59.out; first | omega | exact Nat.le_refl _⟩, ⟨by (try simp only [hl271000_59]); (with_reducible repeat (first | apply Kd.R_alloc | apply Kd.R_drewN | apply Kd.R_drew)); exact Kd.R_mono HO_267000.out (fun _ hk => ⟨hk.1.1.1, ⟨hk.1.1.2, hk.2⟩⟩)⟩, ⟨by (try simp only [hl271000_59]); (with_reducible repeat (first | apply Kd.R_alloc | apply Kd.R_drewN | apply Kd.R_drew)); exact Kd.R_mono HO_271000.out (fun _ hk => ⟨hk.1.1.1, ⟨hk.1.1.2, hk.2⟩⟩)⟩, ⟨by (try simp only [hl271000_59]); (with_reducible repeat (first | apply Kd.R_alloc | apply Kd.R_drewN | apply Kd.R_drew)); exact Kd.R_mono HO_276000.out (fun _ hk => ⟨hk.1.1.1, ⟨hk.1.1.2, hk.2⟩⟩)⟩, ⟨by (try simp only [hl271000_59]); (with_reducible repeat (first | apply Kd.R_alloc | apply Kd.R_drewN | apply Kd.R_drew)); exact Kd.R_mono HO292.out (fun _ hk => ⟨hk.1.1.1.2, ⟨hk.1.1.2, hk.1.2⟩⟩)⟩, ⟨by (try simp only [hl271000_59]); (with_reducible repeat (first | refine blk_drewN ?_ _ | refine blk_drew ?_ | refine blk_alloc ?_ _)); exact BK257.out⟩, ⟨by (try simp only [hl271000_59]); (with_reducible repeat (first | refine blk_drewN ?_ _ | refine blk_drew ?_ | refine blk_alloc ?_ _)); exact BK266.out⟩, ⟨by (try simp only [hl271000_59]); (with_reducible repeat (first | refine blk_drewN ?_ _ | refine blk_drew ?_ | refine blk_alloc ?_ _)); exact BK270.out⟩, ⟨by (try simp only [hl271000_59]); (with_reducible repeat (first | refine blk_drewN ?_ _ | refine blk_drew ?_ | refine blk_alloc ?_ _)); exact BK275.out⟩, ⟨by (try simp only [hl271000_59]); (with_reducible repeat (first | refine blk_drewN ?_ _ | refine blk_drew ?_ | refine blk_alloc ?_ _)); exact BK294.out⟩, ⟨hB HB.out⟩⟩
           case rest =>
            clear HC103
            try clear c1
            try clear c2
            try clear p2
            try clear c3
            try clear c3b0
            try clear c4
            try clear c5
            try clear c6
            try clear c7
            try clear c8
            try clear c9
            try clear c10
            try clear c11
            try clear c12
            try clear c13
            try clear c14
            try clear c21
            try clear c27
            try clear c28
            try clear c33
            try clear c34
            try clear c35
            try clear c38
            try clear c39
            try clear c40
            try clear c41
            try clear c43
            try clear c44
            try clear c47
            try clear c48
            try clear c49
            try clear c51
            try clear c52
            try clear c55
            try clear c58
            try clear c65
            try clear c66
            try clear c67
            try clear c70
            try clear c70b0
            try clear c72
            try clear c73
            try clear c74
            try clear c75
            try clear c77
            try clear c78
            try clear c81
            try clear c82
            try clear c83
            try clear c85
            try clear c86
            try clear c89
            try clear c92
            try clear c92b0
            try clear c93
            try clear c94
            try clear c95
            try clear c100
            try clear c100b0
            try clear c100b1
            try clear c104
            try clear c105
            try clear c106
            try clear c111
            try clear c112
            try clear c119
            try clear c120
            try clear c121
            try clear c122
            try clear c125
            try clear c126
            try clear c127
            try clear c128
            try clear c129
            try clear c131
            try clear c132
            try clear c133
            try clear c136
            try clear c137
            try clear c138
            try clear c139
            try clear c141
            try clear c142
            try clear c143
            try clear hcz107_0
            try clear hcz109_0
            try clear hcz113_0
            try clear hcz123_0
            try clear hcz130_0
            try clear hcz134_0
            try clear hcz13_0
            try clear hcz140_0
            try clear hcz144_0
            try clear hcz15_0
            try clear hcz22_0
            try clear hcz23_0
            try clear hcz29_0
            try clear hcz36_0
            try clear hcz42_0
            try clear hcz45_0
            try clear hcz50_0
            try clear hcz53_0
            try clear hcz5_0
            try clear hcz68_0
            try clear hcz76_0
            try clear hcz79_0
            try clear hcz84_0
            try clear hcz87_0
            try clear hcz96_0
            try clear hcz98_0
            try clear hfz107_0
            try clear hfz109_0
            try clear hfz113_0
            try clear hfz123_0
            try clear hfz130_0
            try clear hfz134_0
            try clear hfz13_0
            try clear hfz140_0
            try clear hfz144_0
            try clear hfz15_0
            try clear hfz22_0
            try clear hfz23_0
            try clear hfz29_0
            try clear hfz36_0
            try clear hfz42_0
            try clear hfz45_0
            try clear hfz50_0
            try clear hfz53_0
            try clear hfz5_0
            try clear hfz68_0
            try clear hfz76_0
            try clear hfz79_0
            try clear hfz84_0
            try clear hfz87_0
            try clear hfz96_0
            try clear hfz98_0
            try clear p2
            obtain ⟨kq, x87_102, rfl, HA, HJ102, HO_267000, HO_271000, HO_276000, HO_295000, BK257, BK266, BK270, BK275, BK294, HB⟩ := hcut
            have hl276000_102 := (Kd.R_reads' HO_276000.out).1
            rw [hl276000_102] at HO_276000
            (try simp only [hl276000_102])
            (try simp only [hl276000_102] at BK257)
            (try simp only [hl276000_102] at BK266)
            (try simp only [hl276000_102] at BK270)
            (try simp only [hl276000_102] at BK275)
            (try simp only [hl276000_102] at BK294)
            (try simp only [hl276000_102] at HO_267000)
            (try simp only [hl276000_102] at HO_271000)
            (try simp only [hl276000_102] at HO_295000)
            cases kq with
            | zero => exact absurd HA.out (by simp [laws_FnExactHarderPuzzle.j2])
            | succ kj102 =>
             have H := HA.out
             clear HA
             simp only [laws_FnExactHarderPuzzle.j2] at H
             by_cases c146 : x87_102 = true
             ·subst c146
              have H1 : (some false) = some r := by rw [if_pos rfl] at H; exact H
              clear H
              have H := H1
              clear H1
              obtain rfl := Option.some.inj H
              go_wp2
              go_ret
              exact ⟨by first | rfl | (simp [errW_none, errW_some] <;> rfl) | (simp [*, errW_none, errW_some] <;> rfl), hB HB.out⟩
             ·replace c146 := Bool.eq_false_iff.mpr c146
              subst c146
              have H1 : ((laws_heldPuzzle.f kj102 t285 1).bind fun t296 => (if t296 < 0 then (some false) else (if t296 = t284 then (some true) else (some false)))) = some r := by rw [if_neg (show ¬ (false = true) by decide)] at H; exact H
              clear H
              have H := H1
              clear H1
              replace H := Option.bind_eq_some_iff.mp H
              obtain ⟨t296, A1470, H⟩ := H
              replace H : (if t296 < 0 then (some false) else (if t296 = t284 then (some true) else (some false))) = some r := H
              have A147 := Aside0.mk A1470
              clear A1470
              by_cases c148 : t296 < 0
              ·rw [if_pos c148] at H
               have c148b0 : decide (t296 < 0) = true := decide_eq_true c148
               clear c148
               obtain rfl := Option.some.inj H
               have hnb149 := NB275_257.out
               have hnc149 := NB257_275.out
               have hnb150 := NB275_266.out
               have hnc150 := NB266_275.out
               have hnb151 := NB275_270.out
               have hnc151 := NB270_275.out
               have hnb152 := NB275_294.out
               have hnc152 := NB294_275.out
               have hcz153_0 : wc.cell? ⟨gb275, 0, none⟩ = some (.slice Ao32 t285.length co32) := (blk_cell BK275.out 0).trans rfl
               have hfz153_0 := blk_frozen BK275.out 0
               go_wp2_with (first | ((with_reducible refine gate_callee (f := 13) rfl ?_); refine goesL_ (some 90) rfl rfl Try.func13 (by kernel_rfl) rfl #[.agg #[.slice Ao32 t285.length co32], .int .i64 1] rfl (by (try simp only [List.map_toArray, List.map_cons, List.map_nil]); first | done | rfl | (simp only [List.length_drop, List.length_take]; rfl)) ?_; (with_reducible refine (laws_heldPuzzle.calls kj102 _ _ t285 1 t296 _ ?side1 ?side2 A147.out).mono ?_); (case side1 => repeat (first | exact (Kd.R_reads' HO_276000.out).2.2 | (with_reducible refine Kd.C_alloc ?_ _) | (with_reducible refine Kd.C_drewN ?_ _) | (with_reducible refine Kd.C_drew ?_))); (case side2 => exact (Kd.R_reads' HO_276000.out).2.1); rintro e w154 ⟨rfl, hb⟩; refine ⟨_, rfl, ?_⟩; have n0_ := Aside0.mk (Kd.R_below (rk HO_267000.out) hb); have n1_ := Aside0.mk (Kd.R_below (rk HO_271000.out) hb); have n2_ := Aside0.mk (Kd.R_below (rk HO_276000.out) hb); have n3_ := Aside0.mk (Kd.R_below (rk HO_295000.out) hb); have n4_ := Aside0.mk (blk_below (g := gb257) (o := .cells #[.slice A0_0 l0_0.length c0_0] 24 (0, 0)) (bk BK257.out) hb); have n5_ := Aside0.mk (blk_below (g := gb266) (o := .cells #[.slice Ao20 t262.length co20] 28 (0, 0)) (bk BK266.out) hb); have n6_ := Aside0.mk (blk_below (g := gb270) (o := .cells #[.slice Ao26 t282.length co26] 28 (0, 0)) (bk BK270.out) hb); have n7_ := Aside0.mk (blk_below (g := gb275) (o := .cells #[.slice Ao32 t285.length co32] 28 (0, 0)) (bk BK275.out) hb); have n8_ := Aside0.mk (blk_below (g := gb294) (o := .cells #[.slice Ao118 t290.length co118] 28 (0, 0)) (bk BK294.out) hb); have n9_ := Aside0.mk (below_step (hB HB.out) hb); clear HO_267000; clear HO_271000; clear HO_276000; clear HO_295000; clear BK257; clear BK266; clear BK270; clear BK275; clear BK294; clear HB; have HO_267000 := n0_; have HO_271000 := n1_; have HO_276000 := n2_; have HO_295000 := n3_; have BK257 := n4_; have BK266 := n5_; have BK270 := n6_; have BK275 := n7_; have BK294 := n8_; have HB := n9_; clear n0_ n1_ n2_ n3_ n4_ n5_ n6_ n7_ n8_ n9_; (try clear hb); (try clear hb2); (try clear hk); (try clear hi)))
               go_ret
               exact ⟨by first | rfl | (simp [errW_none, errW_some] <;> rfl) | (simp [*, errW_none, errW_some] <;> rfl), hB HB.out⟩
              ·rw [if_neg c148] at H
               have c148b0 : decide (t296 < 0) = false := decide_eq_false c148
               clear c148
               by_cases c155 : t296 = t284
               ·rw [if_pos c155] at H
                have c155b0 : (t296 == t284) = true := beq_iff_eq.mpr c155
                have c155b1 : (t296 != t284) = false := bne_eq_false_iff_eq.mpr c155
                clear c155
                obtain rfl := Option.some.inj H
                have hnb156 := NB275_257.out
                have hnc156 := NB257_275.out
                have hnb157 := NB275_266.out
                have hnc157 := NB266_275.out
                have hnb158 := NB275_270.out
                have hnc158 := NB270_275.out
                have hnb159 := NB275_294.out
                have hnc159 := NB294_275.out
                have hcz160_0 : wc.cell? ⟨gb275, 0, none⟩ = some (.slice Ao32 t285.length co32) := (blk_cell BK275.out 0).trans rfl
                have hfz160_0 := blk_frozen BK275.out 0
                go_wp2_with (first | ((with_reducible refine gate_callee (f := 13) rfl ?_); refine goesL_ (some 90) rfl rfl Try.func13 (by kernel_rfl) rfl #[.agg #[.slice Ao32 t285.length co32], .int .i64 1] rfl (by (try simp only [List.map_toArray, List.map_cons, List.map_nil]); first | done | rfl | (simp only [List.length_drop, List.length_take]; rfl)) ?_; (with_reducible refine (laws_heldPuzzle.calls kj102 _ _ t285 1 t296 _ ?side1 ?side2 A147.out).mono ?_); (case side1 => repeat (first | exact (Kd.R_reads' HO_276000.out).2.2 | (with_reducible refine Kd.C_alloc ?_ _) | (with_reducible refine Kd.C_drewN ?_ _) | (with_reducible refine Kd.C_drew ?_))); (case side2 => exact (Kd.R_reads' HO_276000.out).2.1); rintro e w161 ⟨rfl, hb⟩; refine ⟨_, rfl, ?_⟩; have n0_ := Aside0.mk (Kd.R_below (rk HO_267000.out) hb); have n1_ := Aside0.mk (Kd.R_below (rk HO_271000.out) hb); have n2_ := Aside0.mk (Kd.R_below (rk HO_276000.out) hb); have n3_ := Aside0.mk (Kd.R_below (rk HO_295000.out) hb); have n4_ := Aside0.mk (blk_below (g := gb257) (o := .cells #[.slice A0_0 l0_0.length c0_0] 24 (0, 0)) (bk BK257.out) hb); have n5_ := Aside0.mk (blk_below (g := gb266) (o := .cells #[.slice Ao20 t262.length co20] 28 (0, 0)) (bk BK266.out) hb); have n6_ := Aside0.mk (blk_below (g := gb270) (o := .cells #[.slice Ao26 t282.length co26] 28 (0, 0)) (bk BK270.out) hb); have n7_ := Aside0.mk (blk_below (g := gb275) (o := .cells #[.slice Ao32 t285.length co32] 28 (0, 0)) (bk BK275.out) hb); have n8_ := Aside0.mk (blk_below (g := gb294) (o := .cells #[.slice Ao118 t290.length co118] 28 (0, 0)) (bk BK294.out) hb); have n9_ := Aside0.mk (below_step (hB HB.out) hb); clear HO_267000; clear HO_271000; clear HO_276000; clear HO_295000; clear BK257; clear BK266; clear BK270; clear BK275; clear BK294; clear HB; have HO_267000 := n0_; have HO_271000 := n1_; have HO_276000 := n2_; have HO_295000 := n3_; have BK257 := n4_; have BK266 := n5_; have BK270 := n6_; have BK275 := n7_; have BK294 := n8_; have HB := n9_; clear n0_ n1_ n2_ n3_ n4_ n5_ n6_ n7_ n8_ n9_; (try clear hb); (try clear hb2); (try clear hk); (try clear hi)))
                go_ret
                exact ⟨by first | rfl | (simp [errW_none, errW_some] <;> rfl) | (simp [*, errW_none, errW_some] <;> rfl), hB HB.out⟩
               ·rw [if_neg c155] at H
                have c155b0 : (t296 == t284) = false := beq_eq_false_iff_ne.mpr c155
                have c155b1 : (t296 != t284) = true := bne_iff_ne.mpr c155
                obtain rfl := Option.some.inj H
                have hnb162 := NB275_257.out
                have hnc162 := NB257_275.out
                have hnb163 := NB275_266.out
                have hnc163 := NB266_275.out
                have hnb164 := NB275_270.out
                have hnc164 := NB270_275.out
                have hnb165 := NB275_294.out
                have hnc165 := NB294_275.out
                have hcz166_0 : wc.cell? ⟨gb275, 0, none⟩ = some (.slice Ao32 t285.length co32) := (blk_cell BK275.out 0).trans rfl
                have hfz166_0 := blk_frozen BK275.out 0
                go_wp2_with (first | ((with_reducible refine gate_callee (f := 13) rfl ?_); refine goesL_ (some 90) rfl rfl Try.func13 (by kernel_rfl) rfl #[.agg #[.slice Ao32 t285.length co32], .int .i64 1] rfl (by (try simp only [List.map_toArray, List.map_cons, List.map_nil]); first | done | rfl | (simp only [List.length_drop, List.length_take]; rfl)) ?_; (with_reducible refine (laws_heldPuzzle.calls kj102 _ _ t285 1 t296 _ ?side1 ?side2 A147.out).mono ?_); (case side1 => repeat (first | exact (Kd.R_reads' HO_276000.out).2.2 | (with_reducible refine Kd.C_alloc ?_ _) | (with_reducible refine Kd.C_drewN ?_ _) | (with_reducible refine Kd.C_drew ?_))); (case side2 => exact (Kd.R_reads' HO_276000.out).2.1); rintro e w167 ⟨rfl, hb⟩; refine ⟨_, rfl, ?_⟩; have n0_ := Aside0.mk (Kd.R_below (rk HO_267000.out) hb); have n1_ := Aside0.mk (Kd.R_below (rk HO_271000.out) hb); have n2_ := Aside0.mk (Kd.R_below (rk HO_276000.out) hb); have n3_ := Aside0.mk (Kd.R_below (rk HO_295000.out) hb); have n4_ := Aside0.mk (blk_below (g := gb257) (o := .cells #[.slice A0_0 l0_0.length c0_0] 24 (0, 0)) (bk BK257.out) hb); have n5_ := Aside0.mk (blk_below (g := gb266) (o := .cells #[.slice Ao20 t262.length co20] 28 (0, 0)) (bk BK266.out) hb); have n6_ := Aside0.mk (blk_below (g := gb270) (o := .cells #[.slice Ao26 t282.length co26] 28 (0, 0)) (bk BK270.out) hb); have n7_ := Aside0.mk (blk_below (g := gb275) (o := .cells #[.slice Ao32 t285.length co32] 28 (0, 0)) (bk BK275.out) hb); have n8_ := Aside0.mk (blk_below (g := gb294) (o := .cells #[.slice Ao118 t290.length co118] 28 (0, 0)) (bk BK294.out) hb); have n9_ := Aside0.mk (below_step (hB HB.out) hb); clear HO_267000; clear HO_271000; clear HO_276000; clear HO_295000; clear BK257; clear BK266; clear BK270; clear BK275; clear BK294; clear HB; have HO_267000 := n0_; have HO_271000 := n1_; have HO_276000 := n2_; have HO_295000 := n3_; have BK257 := n4_; have BK266 := n5_; have BK270 := n6_; have BK275 := n7_; have BK294 := n8_; have HB := n9_; clear n0_ n1_ n2_ n3_ n4_ n5_ n6_ n7_ n8_ n9_; (try clear hb); (try clear hb2); (try clear hk); (try clear hi)))
                go_ret
                exact ⟨by first | rfl | (simp [errW_none, errW_some] <;> rfl) | (simp [*, errW_none, errW_some] <;> rfl), hB HB.out⟩
          ·rw [if_neg c100] at H
           have c100b0 : (t286 == t284) = false := beq_eq_false_iff_ne.mpr c100
           have c100b1 : (t286 != t284) = true := bne_iff_ne.mpr c100
           obtain rfl := Option.some.inj H
           have hnb168 := NB275_257.out
           have hnc168 := NB257_275.out
           have hnb169 := NB275_266.out
           have hnc169 := NB266_275.out
           have hnb170 := NB275_270.out
           have hnc170 := NB270_275.out
           have hcz171_0 : wc.cell? ⟨gb275, 0, none⟩ = some (.slice Ao32 t271.length co32) := (blk_cell BK275.out 0).trans rfl
           have hfz171_0 := blk_frozen BK275.out 0
           go_wp2_with (first | ((with_reducible refine gate_callee (f := 12) rfl ?_); refine goesL_ (some 64) rfl rfl Try.func12 (by kernel_rfl) rfl #[.agg #[.slice Ao32 t271.length co32], .int .i64 1] rfl (by (try simp only [List.map_toArray, List.map_cons, List.map_nil]); first | done | rfl | (simp only [List.length_drop, List.length_take]; rfl)) ?_; (with_reducible refine (laws_markPuzzle.calls kj59 (fun k_ => some k_ = (.slice Ao32 t271.length co32 : Value).ownBlock) (.slice Ao32 t271.length co32) t271 1 t284 t285 w _ ?side1 ?side2 A90.out).mono ?_); (case side1 => repeat (first | (with_reducible first | exact HB.out | apply below_alloc | apply pw_below_drewN | apply below_drew1 | refine below_set ?_ GE257.out | refine below_set ?_ GE266.out | refine below_set ?_ GE270.out | refine below_set ?_ GE275.out) | exact HB.out)); (case side2 => exact Kd.R_tight rfl HO_276000.out); rintro e w172 ⟨rfl, hy0, hb, hkp⟩; refine ⟨_, rfl, ?_⟩; have n0_ := Aside0.mk (Kd.R_mono (ok' := fun k_ => some k_ ≠ (.slice Ao26 t282.length co26 : Value).ownBlock ∧ some k_ ≠ (.slice Ao32 t271.length co32 : Value).ownBlock) (Kd.R_keptB (HO_267000.out) hkp (fun k_ hk_ hs_ => (hk_.2) hs_)) (fun k_ hk_ => ⟨hk_.1.1, hk_.1.2⟩)); have n1_ := Aside0.mk (Kd.R_mono (ok' := fun k_ => some k_ ≠ (.slice Ao20 t262.length co20 : Value).ownBlock ∧ some k_ ≠ (.slice Ao32 t271.length co32 : Value).ownBlock) (Kd.R_keptB (HO_271000.out) hkp (fun k_ hk_ hs_ => (hk_.2) hs_)) (fun k_ hk_ => ⟨hk_.1.1, hk_.1.2⟩)); have n2_ := Aside0.mk (Kd.R_reok rfl hy0 (fun k_ e_ => HO_276000.out.1 k_ e_)); have n3_ := Aside0.mk (blk_kept (bk BK257.out) hkp (fun hs_ => (fun e_ => (Kd.R_ne HO_276000.out BK257.out (by decide)) e_) hs_)); have n4_ := Aside0.mk (blk_kept (bk BK266.out) hkp (fun hs_ => (fun e_ => (Kd.R_ne HO_276000.out BK266.out (by decide)) e_) hs_)); have n5_ := Aside0.mk (blk_kept (bk BK270.out) hkp (fun hs_ => (fun e_ => (Kd.R_ne HO_276000.out BK270.out (by decide)) e_) hs_)); have n6_ := Aside0.mk (blk_kept (bk BK275.out) hkp (fun hs_ => (fun e_ => (Kd.R_ne HO_276000.out BK275.out (by decide)) e_) hs_)); have n7_ := Aside0.mk (hb); clear HO_267000; clear HO_271000; clear HO_276000; clear BK257; clear BK266; clear BK270; clear BK275; clear HB; have HO_267000 := n0_; have HO_271000 := n1_; have HO_276000 := n2_; have BK257 := n3_; have BK266 := n4_; have BK270 := n5_; have BK275 := n6_; have HB := n7_; clear n0_ n1_ n2_ n3_ n4_ n5_ n6_ n7_; (try clear hb); (try clear hkp); (try clear hy0); have hcz173_0 : w172.cell? ⟨gb275, 0, none⟩ = some (.slice Ao32 t271.length co32) := (blk_cell BK275.out 0).trans rfl; have hfz173_0 := blk_frozen BK275.out 0) | ((with_reducible refine gate_callee (f := 13) rfl ?_); refine goesL_ (some 67) rfl rfl Try.func13 (by kernel_rfl) rfl #[.agg #[.slice Ao32 t285.length co32], .int .i64 1] rfl (by (try simp only [List.map_toArray, List.map_cons, List.map_nil]); first | done | (rw [show t285.length = t271.length from (Kd.R_reads' HO_276000.out).1.symm] <;> rfl) | rfl | (simp only [List.length_drop, List.length_take]; rfl)) ?_; (with_reducible refine (laws_heldPuzzle.calls kj59 _ _ t285 1 t286 _ ?side1 ?side2 A91.out).mono ?_); (case side1 => repeat (first | exact (Kd.R_reads' HO_276000.out).2.2 | (with_reducible refine Kd.C_alloc ?_ _) | (with_reducible refine Kd.C_drewN ?_ _) | (with_reducible refine Kd.C_drew ?_))); (case side2 => rw [show t285.length = t271.length from (Kd.R_reads' HO_276000.out).1.symm]; exact (Kd.R_reads' HO_276000.out).2.1); rintro e w174 ⟨rfl, hb⟩; refine ⟨_, rfl, ?_⟩; have n0_ := Aside0.mk (Kd.R_below (rk HO_267000.out) hb); have n1_ := Aside0.mk (Kd.R_below (rk HO_271000.out) hb); have n2_ := Aside0.mk (Kd.R_below (rk HO_276000.out) hb); have n3_ := Aside0.mk (blk_below (g := gb257) (o := .cells #[.slice A0_0 l0_0.length c0_0] 24 (0, 0)) (bk BK257.out) hb); have n4_ := Aside0.mk (blk_below (g := gb266) (o := .cells #[.slice Ao20 t262.length co20] 28 (0, 0)) (bk BK266.out) hb); have n5_ := Aside0.mk (blk_below (g := gb270) (o := .cells #[.slice Ao26 t282.length co26] 28 (0, 0)) (bk BK270.out) hb); have n6_ := Aside0.mk (blk_below (g := gb275) (o := .cells #[.slice Ao32 t271.length co32] 28 (0, 0)) (bk BK275.out) hb); have n7_ := Aside0.mk (below_step (hB HB.out) hb); clear HO_267000; clear HO_271000; clear HO_276000; clear BK257; clear BK266; clear BK270; clear BK275; clear HB; have HO_267000 := n0_; have HO_271000 := n1_; have HO_276000 := n2_; have BK257 := n3_; have BK266 := n4_; have BK270 := n5_; have BK275 := n6_; have HB := n7_; clear n0_ n1_ n2_ n3_ n4_ n5_ n6_ n7_; (try clear hb); (try clear hb2); (try clear hk); (try clear hi)))
           go_ret
           exact ⟨by first | rfl | (simp [errW_none, errW_some] <;> rfl) | (simp [*, errW_none, errW_some] <;> rfl), hB HB.out⟩
     ·replace c58 := Bool.eq_false_iff.mpr c58
      subst c58
      have H1 : (some false) = some r := by rw [if_neg (show ¬ (false = true) by decide)] at H; exact H
      clear H
      have H := H1
      clear H1
      obtain rfl := Option.some.inj H
      try go_wp2
      have n0_ := Aside0.mk (Kd.R_drew HO_267000.out)
      have n1_ := Aside0.mk (Kd.R_drew HO_271000.out)
      have n2_ := Aside0.mk (Kd.R_drew HO_276000.out)
      have n3_ := Aside0.mk (blk_drew BK257.out)
      have n4_ := Aside0.mk (blk_drew BK266.out)
      have n5_ := Aside0.mk (blk_drew BK270.out)
      have n6_ := Aside0.mk (blk_drew BK275.out)
      have n7_ := Aside0.mk (below_drew1 HB.out)
      clear HO_267000
      clear HO_271000
      clear HO_276000
      clear BK257
      clear BK266
      clear BK270
      clear BK275
      clear HB
      have HO_267000 := n0_
      have HO_271000 := n1_
      have HO_276000 := n2_
      have BK257 := n3_
      have BK266 := n4_
      have BK270 := n5_
      have BK275 := n6_
      have HB := n7_
      clear n0_ n1_ n2_ n3_ n4_ n5_ n6_ n7_
      refine start_ (n := 5) (S := fun w' => w'.cell? ⟨gb270, 0, none⟩ = some (.slice Ao26 t267.length co26) ∧ w'.cell? ⟨gb257, 0, none⟩ = some (.slice A0_0 l0_0.length c0_0)) (ds := []) #[false, false, false, false, false] (by kernel_rfl) rfl rfl ⟨(blk_cell BK270.out 0).trans rfl, (blk_cell BK257.out 0).trans rfl⟩ (fun hHeld => ?_)
      generalize wc.drew = w175 at HO_267000 HO_271000 HO_276000 BK257 BK266 BK270 BK275 HB hHeld ⊢
      refine take_ (i := 0) (N := some 41) (v := ?_) (a' := ?_) #[true, false, false, false, false] rfl rfl (by kernel_rfl) (fun _ _ _ h => h) (Or.inl ⟨by rfl, ?_⟩) hHeld ?_ ?_
      rotate_left
      ·rintro w' ⟨s0, s1⟩
       go_simp
       with_reducible rfl
      rotate_left
      ·simp only [Act.put, List.setIfInBounds_toArray, List.set_cons_zero, List.set_cons_succ, i64_w, i32_w]
       rfl
      refine take_ (i := 1) (N := some 42) (v := ?_) (a' := ?_) #[true, true, false, false, false] rfl rfl (by kernel_rfl) (fun _ _ _ h => h) (Or.inl ⟨by rfl, ?_⟩) hHeld ?_ ?_
      rotate_left
      ·rintro w' ⟨s0, s1⟩
       go_simp
       with_reducible rfl
      rotate_left
      ·simp only [Act.put, List.setIfInBounds_toArray, List.set_cons_zero, List.set_cons_succ, i64_w, i32_w]
       rfl
      refine one_ (i := 2) (N := some 43) #[true, true, true, false, false] rfl rfl (by kernel_rfl) (by decide) (fun K hK => ?_)
      refine goes_ Try.func9 (by kernel_rfl) rfl #[.agg #[.slice A0_0 l0_0.length c0_0]] (by rfl) rfl rfl (by (try simp only [List.map_toArray, List.map_cons, List.map_nil]); first | done | rfl | (simp only [List.length_drop, List.length_take]; rfl)) ?_
      with_reducible refine (laws_toPuzzle.calls kj10 _ _ l0_0 t277 _ ?side1 ?side2 A56.out).mono ?_
      (case side1 => repeat (first | exact (Kd.C_below HR0_0.out HB.out) | (with_reducible refine Kd.C_alloc ?_ _) | (with_reducible refine Kd.C_drewN ?_ _) | (with_reducible refine Kd.C_drew ?_)))
      (case side2 => exact HC0_0.out)
      rintro e w176 ⟨v278, rfl, ho0, hb⟩
      refine ⟨_, rfl, ?_⟩
      have n0_ := Aside0.mk (Kd.R_elder' (rk HO_267000.out) (Kd.R_base ho0) hb)
      have n1_ := Aside0.mk (Kd.R_elder' (rk HO_271000.out) (Kd.R_base ho0) hb)
      have n2_ := Aside0.mk (Kd.R_elder' (rk HO_276000.out) (Kd.R_base ho0) hb)
      have n3_ := Aside0.mk (Kd.R_lower (Kd.R_new' (Kd.R_new' (Kd.R_new' ho0 (Kd.R_lt (rk HO_267000.out))) (Kd.R_lt (rk HO_271000.out))) (Kd.R_lt (rk HO_276000.out))) (below_size (hB HB.out)))
      have n4_ := Aside0.mk (blk_below (g := gb257) (o := .cells #[.slice A0_0 l0_0.length c0_0] 24 (0, 0)) (bk BK257.out) hb)
      have n5_ := Aside0.mk (blk_below (g := gb266) (o := .cells #[.slice Ao20 t262.length co20] 28 (0, 0)) (bk BK266.out) hb)
      have n6_ := Aside0.mk (blk_below (g := gb270) (o := .cells #[.slice Ao26 t267.length co26] 28 (0, 0)) (bk BK270.out) hb)
      have n7_ := Aside0.mk (blk_below (g := gb275) (o := .cells #[.slice Ao32 t271.length co32] 28 (0, 0)) (bk BK275.out) hb)
      have n8_ := Aside0.mk (below_step (hB HB.out) hb)
      clear HO_267000
      clear HO_271000
      clear HO_276000
      clear BK257
      clear BK266
      clear BK270
      clear BK275
      clear HB
      have HO_267000 := n0_
      have HO_271000 := n1_
      have HO_276000 := n2_
      have HO279 := n3_
      have BK257 := n4_
      have BK266 := n5_
      have BK270 := n6_
      have BK275 := n7_
      have HB := n8_
      clear n0_ n1_ n2_ n3_ n4_ n5_ n6_ n7_ n8_
      (try clear hb)
      (try clear hb2)
      (try clear hk)
      (try clear hi)
      (try clear ho0)
      obtain ⟨Ao177, co177, eo177⟩ := Kd.R_slice HO279.out
      (first | subst eo177 | (injection eo177 with f1_ f2_ f3_; have f4_ := f1_.symm; have f5_ := f3_.symm; clear f1_ f2_ f3_; subst f4_; subst f5_))
      refine hK.out _ _ ⟨(blk_cell BK270.out 0).trans rfl, (blk_cell BK257.out 0).trans rfl⟩ (fun hHeld => ?_)
      clear hK K
      refine norm_ (a' := ?_) ?_ ?_
      rotate_left
      ·show Act.put _ (some 43) _ = _
       simp only [Act.put, List.setIfInBounds_toArray, List.set_cons_zero, List.set_cons_succ, i64_w, i32_w]
       rfl
      refine one_ (i := 3) (N := some 44) #[true, true, true, true, false] rfl rfl (by kernel_rfl) (by decide) (fun K hK => ?_)
      refine goes_ Try.func11 (by kernel_rfl) rfl #[.agg #[.slice Ao26 t267.length co26], .agg #[.slice Ao177 t277.length co177]] (by rfl) rfl rfl (by (try simp only [List.map_toArray, List.map_cons, List.map_nil]); first | done | rfl | (simp only [List.length_drop, List.length_take]; rfl)) ?_
      with_reducible refine (laws_eqPuzzle.calls kj10 _ _ t267 _ _ t277 false _ ?side1 ?side2 ?side3 ?side4 A57.out).mono ?_
      (case side1 => repeat (first | exact (Kd.R_reads' HO_271000.out).2.2 | (with_reducible refine Kd.C_alloc ?_ _) | (with_reducible refine Kd.C_drewN ?_ _) | (with_reducible refine Kd.C_drew ?_)))
      (case side2 => exact (Kd.R_reads' HO_271000.out).2.1)
      (case side3 => repeat (first | exact (Kd.R_reads' HO279.out).2.2 | (with_reducible refine Kd.C_alloc ?_ _) | (with_reducible refine Kd.C_drewN ?_ _) | (with_reducible refine Kd.C_drew ?_)))
      (case side4 => exact (Kd.R_reads' HO279.out).2.1)
      rintro e w178 ⟨rfl, hb⟩
      refine ⟨_, rfl, ?_⟩
      have n0_ := Aside0.mk (Kd.R_below (rk HO_267000.out) hb)
      have n1_ := Aside0.mk (Kd.R_below (rk HO_271000.out) hb)
      have n2_ := Aside0.mk (Kd.R_below (rk HO_276000.out) hb)
      have n3_ := Aside0.mk (Kd.R_below (rk HO279.out) hb)
      have n4_ := Aside0.mk (blk_below (g := gb257) (o := .cells #[.slice A0_0 l0_0.length c0_0] 24 (0, 0)) (bk BK257.out) hb)
      have n5_ := Aside0.mk (blk_below (g := gb266) (o := .cells #[.slice Ao20 t262.length co20] 28 (0, 0)) (bk BK266.out) hb)
      have n6_ := Aside0.mk (blk_below (g := gb270) (o := .cells #[.slice Ao26 t267.length co26] 28 (0, 0)) (bk BK270.out) hb)
      have n7_ := Aside0.mk (blk_below (g := gb275) (o := .cells #[.slice Ao32 t271.length co32] 28 (0, 0)) (bk BK275.out) hb)
      have n8_ := Aside0.mk (below_step (hB HB.out) hb)
      clear HO_267000
      clear HO_271000
      clear HO_276000
      clear HO279
      clear BK257
      clear BK266
      clear BK270
      clear BK275
      clear HB
      have HO_267000 := n0_
      have HO_271000 := n1_
      have HO_276000 := n2_
      have HO279 := n3_
      have BK257 := n4_
      have BK266 := n5_
      have BK270 := n6_
      have BK275 := n7_
      have HB := n8_
      clear n0_ n1_ n2_ n3_ n4_ n5_ n6_ n7_ n8_
      (try clear hb)
      (try clear hb2)
      (try clear hk)
      (try clear hi)
      refine hK.out _ _ ⟨(blk_cell BK270.out 0).trans rfl, (blk_cell BK257.out 0).trans rfl⟩ (fun hHeld => ?_)
      clear hK K
      refine norm_ (a' := ?_) ?_ ?_
      rotate_left
      ·show Act.put _ (some 44) _ = _
       simp only [Act.put, List.setIfInBounds_toArray, List.set_cons_zero, List.set_cons_succ, i64_w, i32_w]
       rfl
      refine pure_ (i := 4) (N := some 45) (v := ?_) (a' := ?_) #[true, true, true, true, true] rfl rfl (by kernel_rfl) (fun _ _ _ h => h) (Or.inl ⟨by rfl, ?_⟩) ?_ ?_
      rotate_left
      ·intro w'
       go_simp
       with_reducible rfl
      rotate_left
      ·simp only [Act.put, List.setIfInBounds_toArray, List.set_cons_zero, List.set_cons_succ, i64_w, i32_w]
       rfl
      refine done_ (by kernel_rfl) ?_
      try go_wp2
      go_ret
      exact ⟨by first | rfl | (simp [errW_none, errW_some] <;> rfl) | (simp [*, errW_none, errW_some] <;> rfl), hB HB.out⟩

/-- THE ONE PURE STATEMENT of laws_FnExactHarderPuzzle: yours. -/
def laws_FnExactHarderPuzzle.Pure : Prop := ∀ (l0_0 : List (S100)), l0_0.length ≤ maxLen → (∀ x ∈ l0_0, (Lit.int .i64 x.f0).wf = true ∧ (Lit.int .i64 x.f1).wf = true ∧ (Lit.int .i64 x.f2).wf = true) → ∃ k, laws_FnExactHarderPuzzle.f k l0_0 = some true

end Go.Proofs.Ytokbknajcgghkaa.QFnExactHarderPuzzle
