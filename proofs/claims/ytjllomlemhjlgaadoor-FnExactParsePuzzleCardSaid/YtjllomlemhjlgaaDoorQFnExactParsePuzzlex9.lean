-- written by a program of this session, over the form of the kit's print
import Derived.Test.YtjllomlemhjlgaaDoorQFnExactParsePuzzlex0
import Derived.Test.YtjllomlemhjlgaaDoorQFnExactParsePuzzlex1
import Derived.Test.YtjllomlemhjlgaaDoorQFnExactParsePuzzlex6
import Derived.Test.YtjllomlemhjlgaaDoorQFnExactParsePuzzlex8
namespace Go.Proofs.YtjllomlemhjlgaaDoor.QFnExactParsePuzzle
open Go.RowKit Go.Proofs.YtjllomlemhjlgaaDoorV Go.Proofs.YtjllomlemhjlgaaDoorW.PrintWords Go.Proofs.YtjllomlemhjlgaaDoorW.PrintLast Go.Proofs.YtjllomlemhjlgaaDoorW.PrintMore
attribute [local go_sem] max2_int min2_int max_two min_two max_three min_three max_four min_four   -- for this text's walks alone
set_option linter.unusedVariables false
set_option linter.unusedSimpArgs false

/-! ### laws_FnExactParsePuzzle: function 6 -/
mutual
def laws_FnExactParsePuzzle.j0 : Nat → ByteArray → Bool → Bool → List (S64) → List (S64) → Option (Bool)
 | 0, _, _, _, _, _ => none
 | k + 1, x0, x4, x32, x243000, x248000 => if x32 = true then (some false) else ((laws_markPuzzle.f k x248000 1).bind fun bt249 => ((laws_heldPuzzle.f k bt249.2 1).bind fun t251 => (if t251 < 0 then (some false) else (if t251 = bt249.1 then ((impl_ParsePuzzle.f k x0).bind fun bt252 => ((laws_eqPuzzle.f k bt252.1 x243000).bind fun t257 => (if t257 = true then (laws_FnExactParsePuzzle.j1 k bt249.1 (bt252.2 != x4) bt249.2) else (laws_FnExactParsePuzzle.j1 k bt249.1 true bt249.2)))) else (some false)))))
def laws_FnExactParsePuzzle.j1 : Nat → Int → Bool → List (S64) → Option (Bool)
 | 0, _, _, _ => none
 | k + 1, x7, x57, x248000 => if x57 = true then (some false) else ((laws_heldPuzzle.f k x248000 1).bind fun t258 => (if t258 < 0 then (some false) else (if t258 = x7 then (some true) else (some false))))
end
def laws_FnExactParsePuzzle.f (k : Nat) (a0 : ByteArray) : Option (Bool) := if (a0.size : Int) > 1048576 then (some true) else ((spec_ParsePuzzle.f k a0).bind fun bt238 => ((impl_ParsePuzzle.f k a0).bind fun bt243 => ((laws_eqPuzzle.f k bt243.1 bt238.1).bind fun t248 => (if t248 = true then (laws_FnExactParsePuzzle.j0 k a0 bt238.2 (bt243.2 != bt238.2) bt238.1 bt243.1) else (laws_FnExactParsePuzzle.j0 k a0 bt238.2 true bt238.1 bt243.1)))))
theorem laws_FnExactParsePuzzle.mono_l : ∀ k, (∀ y0 y1 y2 y3 y4, LeO (laws_FnExactParsePuzzle.j0 k y0 y1 y2 y3 y4) (laws_FnExactParsePuzzle.j0 (k + 1) y0 y1 y2 y3 y4)) ∧ (∀ y0 y1 y2, LeO (laws_FnExactParsePuzzle.j1 k y0 y1 y2) (laws_FnExactParsePuzzle.j1 (k + 1) y0 y1 y2))
 | 0 => ⟨fun _ _ _ _ _ r h => by simp [laws_FnExactParsePuzzle.j0] at h, fun _ _ _ r h => by simp [laws_FnExactParsePuzzle.j1] at h⟩
 | k + 1 => by
  obtain ⟨ih0, ih1⟩ := laws_FnExactParsePuzzle.mono_l k
  refine ⟨?_, ?_⟩
  ·intro y0 y1 y2 y3 y4
   unfold laws_FnExactParsePuzzle.j0
   repeat' first
   | (with_reducible exact ih0 _ _ _ _ _)
   | (with_reducible exact ih1 _ _ _)
   | (with_reducible exact impl_ParsePuzzle.mono _ _)
   | (with_reducible exact laws_eqPuzzle.mono _ _ _)
   | (with_reducible exact laws_heldPuzzle.mono _ _ _)
   | (with_reducible exact laws_markPuzzle.mono _ _ _)
   | (with_reducible exact spec_ParsePuzzle.mono _ _)
   | (with_reducible exact LeO.refl _)
   | (with_reducible exact LeO.none _)
   | (with_reducible refine LeO.ite ?_ ?_)
   | (with_reducible refine LeO.bind ?_ (fun _ => ?_))
   | exact ih0 _ _ _ _ _
   | exact ih1 _ _ _
   | exact impl_ParsePuzzle.mono _ _
   | exact laws_eqPuzzle.mono _ _ _
   | exact laws_heldPuzzle.mono _ _ _
   | exact laws_markPuzzle.mono _ _ _
   | exact spec_ParsePuzzle.mono _ _
   | exact LeO.none _
   | refine LeO.ite ?_ ?_
   | refine LeO.bind ?_ (fun _ => ?_)
  ·intro y0 y1 y2
   unfold laws_FnExactParsePuzzle.j1
   repeat' first
   | (with_reducible exact ih0 _ _ _ _ _)
   | (with_reducible exact ih1 _ _ _)
   | (with_reducible exact impl_ParsePuzzle.mono _ _)
   | (with_reducible exact laws_eqPuzzle.mono _ _ _)
   | (with_reducible exact laws_heldPuzzle.mono _ _ _)
   | (with_reducible exact laws_markPuzzle.mono _ _ _)
   | (with_reducible exact spec_ParsePuzzle.mono _ _)
   | (with_reducible exact LeO.refl _)
   | (with_reducible exact LeO.none _)
   | (with_reducible refine LeO.ite ?_ ?_)
   | (with_reducible refine LeO.bind ?_ (fun _ => ?_))
   | exact ih0 _ _ _ _ _
   | exact ih1 _ _ _
   | exact impl_ParsePuzzle.mono _ _
   | exact laws_eqPuzzle.mono _ _ _
   | exact laws_heldPuzzle.mono _ _ _
   | exact laws_markPuzzle.mono _ _ _
   | exact spec_ParsePuzzle.mono _ _
   | exact LeO.none _
   | refine LeO.ite ?_ ?_
   | refine LeO.bind ?_ (fun _ => ?_)
theorem laws_FnExactParsePuzzle.mono : ∀ a0 k, LeO (laws_FnExactParsePuzzle.f k a0) (laws_FnExactParsePuzzle.f (k + 1) a0) := by
 intro a0 k
 obtain ⟨ih0, ih1⟩ := laws_FnExactParsePuzzle.mono_l k
 unfold laws_FnExactParsePuzzle.f
 repeat' first
   | (with_reducible exact ih0 _ _ _ _ _)
   | (with_reducible exact ih1 _ _ _)
   | (with_reducible exact impl_ParsePuzzle.mono _ _)
   | (with_reducible exact laws_eqPuzzle.mono _ _ _)
   | (with_reducible exact laws_heldPuzzle.mono _ _ _)
   | (with_reducible exact laws_markPuzzle.mono _ _ _)
   | (with_reducible exact spec_ParsePuzzle.mono _ _)
   | (with_reducible exact LeO.refl _)
   | (with_reducible exact LeO.none _)
   | (with_reducible refine LeO.ite ?_ ?_)
   | (with_reducible refine LeO.bind ?_ (fun _ => ?_))
   | exact ih0 _ _ _ _ _
   | exact ih1 _ _ _
   | exact impl_ParsePuzzle.mono _ _
   | exact laws_eqPuzzle.mono _ _ _
   | exact laws_heldPuzzle.mono _ _ _
   | exact laws_markPuzzle.mono _ _ _
   | exact spec_ParsePuzzle.mono _ _
   | exact LeO.none _
   | refine LeO.ite ?_ ?_
   | refine LeO.bind ?_ (fun _ => ?_)
set_option maxHeartbeats 8000000 in
set_option maxRecDepth 100000 in
theorem laws_FnExactParsePuzzle.calls (k : Nat) (a0 : ByteArray) (r : Bool) (w : World) (hT : DoorW Tryd.prog w) (h : laws_FnExactParsePuzzle.f k a0 = some r) :
  Calls Tryd.prog 6 #[.string a0] w fun e w' => e = .returned (.bool r) ∧ Below w.heap.size w w' := by
 have hu37 := Tryd.underlying37
 have HB := Aside0.mk (Below.refl w.heap.size w)
 have HT := Aside0.mk hT
 clear hT
 have H : (if (a0.size : Int) > 1048576 then (some true) else ((spec_ParsePuzzle.f k a0).bind fun bt238 => ((impl_ParsePuzzle.f k a0).bind fun bt243 => ((laws_eqPuzzle.f k bt243.1 bt238.1).bind fun t248 => (if t248 = true then (laws_FnExactParsePuzzle.j0 k a0 bt238.2 (bt243.2 != bt238.2) bt238.1 bt243.1) else (laws_FnExactParsePuzzle.j0 k a0 bt238.2 true bt238.1 bt243.1)))))) = some r := h
 clear h
 by_cases c2 : (a0.size : Int) > 1048576
 ·rw [if_pos c2] at H
  have c2b0 : decide (1048576 < (a0.size : Int)) = true := decide_eq_true c2
  have c2b1 : decide (1048576 < a0.size) = true := decide_eq_true (by omega)
  clear c2
  obtain rfl := Option.some.inj H
  go_enter Tryd.func6, Tryd.ntmps6
  go_wp2
  go_ret
  exact ⟨by first | rfl | (simp [errW_none, errW_some] <;> rfl) | (simp [*, errW_none, errW_some] <;> rfl), hB HB.out⟩
 ·rw [if_neg c2] at H
  have c2b0 : decide (1048576 < (a0.size : Int)) = false := decide_eq_false c2
  have c2b1 : decide (1048576 < a0.size) = false := decide_eq_false (by omega)
  clear c2
  replace H := Option.bind_eq_some_iff.mp H
  obtain ⟨⟨t238, t241⟩, A30, H⟩ := H
  replace H : ((impl_ParsePuzzle.f k a0).bind fun bt243 => ((laws_eqPuzzle.f k bt243.1 t238).bind fun t248 => (if t248 = true then (laws_FnExactParsePuzzle.j0 k a0 t241 (bt243.2 != t241) t238 bt243.1) else (laws_FnExactParsePuzzle.j0 k a0 t241 true t238 bt243.1)))) = some r := H
  have A3 := Aside0.mk A30
  clear A30
  replace H := Option.bind_eq_some_iff.mp H
  obtain ⟨⟨t243, t246⟩, A40, H⟩ := H
  replace H : ((laws_eqPuzzle.f k t243 t238).bind fun t248 => (if t248 = true then (laws_FnExactParsePuzzle.j0 k a0 t241 (t246 != t241) t238 t243) else (laws_FnExactParsePuzzle.j0 k a0 t241 true t238 t243))) = some r := H
  have A4 := Aside0.mk A40
  clear A40
  have HC5 := Aside0.mk H
  clear H
  go_enter Tryd.func6, Tryd.ntmps6
  go_upto_region 5 with (first | ((with_reducible refine gate_callee (f := 21) rfl ?_); refine goesL_ (some 16) rfl rfl Tryd.func21 (by kernel_rfl) rfl #[.string a0] rfl (by (try simp only [List.map_toArray, List.map_cons, List.map_nil]); first | done | rfl | (simp only [List.length_drop, List.length_take]; rfl)) ?_; (with_reducible refine (spec_ParsePuzzle.calls k a0 t238 t241 _ A3.out).mono ?_); rintro e w6 ⟨v239, rfl, ho0, hb⟩; refine ⟨_, rfl, ?_⟩; have n0_ := Aside0.mk (Kd.R_lower ho0 (below_size (hB HB.out))); have n1_ := Aside0.mk (below_step (hB HB.out) hb); clear HB; have HO240 := n0_; have HB := n1_; clear n0_ n1_; (try clear hb); (try clear hb2); (try clear hk); (try clear hi); (try clear ho0)) | ((with_reducible refine gate_dst (N := 3) rfl ?_); refine box_event ?hg (N := 3) ?hd (cs := #[.slice none 0 0]) (t := 37) ?hr ?_; (case hd => rfl); (case hg => rfl); (case hr => first | (go_simp; done) | (go_simp; rfl)); intro gb242 hg w7 hbox hb; have n0_ := Aside0.mk (Kd.R_below (rk HO240.out) hb); have n1_ := Aside0.mk (below_step (hB HB.out) hb); have n2_ := Aside0.mk (hbox); have n3_ := Aside0.mk ((by rw [hg]; exact (below_size (hB HB.out)) : w.heap.size ≤ gb242)); have n4_ := Aside0.mk ((by rw [hg]; exact (below_size (hB HB.out)) : w.heap.size ≤ gb242)); clear HO240; clear HB; have HO240 := n0_; have HB := n1_; have BK242 := n2_; have GW242 := n3_; have GE242 := n4_; clear n0_ n1_ n2_ n3_ n4_; clear hb hbox hg; obtain ⟨Ao8, co8, eo8⟩ := Kd.R_slice HO240.out; subst eo8; have hcz9_0 : w7.cell? ⟨gb242, 0, none⟩ = some (.slice none 0 0) := (blk_cell BK242.out 0).trans rfl; have hfz9_0 := blk_frozen BK242.out 0) | ((with_reducible refine gate_callee (f := 22) rfl ?_); refine goesL_ (some 21) rfl rfl Tryd.func22 (by kernel_rfl) rfl #[.string a0] rfl (by (try simp only [List.map_toArray, List.map_cons, List.map_nil]); first | done | rfl | (simp only [List.length_drop, List.length_take]; rfl)) ?_; (with_reducible refine (impl_ParsePuzzle.calls k a0 t243 t246 _ ?sideT A4.out).mono ?_); (case sideT => exact HT.out.below (hB HB.out)); rintro e w10 ⟨v244, rfl, ho0, hb⟩; refine ⟨_, rfl, ?_⟩; have n0_ := Aside0.mk (Kd.R_elder' (rk (Kd.R_mono (Kd.R_far (p := ⟨gb242, 0, none⟩) (Kd.R_types HO240.out BK242.out (by decide)) (fun _ hk => hk.2) (.slice Ao8 t238.length co8)) (fun _ h_ => h_.1))) (Kd.R_base ho0) hb); have n1_ := Aside0.mk (Kd.R_lower (Kd.R_new' ho0 (Kd.R_lt (rk (Kd.R_mono (Kd.R_far (p := ⟨gb242, 0, none⟩) (Kd.R_types HO240.out BK242.out (by decide)) (fun _ hk => hk.2) (.slice Ao8 t238.length co8)) (fun _ h_ => h_.1))))) (below_size (hB HB.out))); have n2_ := Aside0.mk (blk_below (g := gb242) (o := .cells #[.slice Ao8 t238.length co8] 37 (0, 0)) (by (with_reducible repeat (first | refine blk_drewN ?_ _ | refine blk_drew ?_ | refine blk_alloc ?_ _)); refine blk_put (cs := #[.slice none 0 0]) ?_ 0 _ rfl; (with_reducible repeat (first | refine blk_drewN ?_ _ | refine blk_drew ?_ | refine blk_alloc ?_ _)); exact BK242.out) hb); have n3_ := Aside0.mk (below_step (hB HB.out) hb); clear HO240; clear BK242; clear HB; have HO240 := n0_; have HO245 := n1_; have BK242 := n2_; have HB := n3_; clear n0_ n1_ n2_ n3_; (try clear hb); (try clear hb2); (try clear hk); (try clear hi); (try clear ho0)) | ((with_reducible refine gate_dst (N := 5) rfl ?_); refine box_event ?hg (N := 5) ?hd (cs := #[.slice none 0 0]) (t := 37) ?hr ?_; (case hd => rfl); (case hg => rfl); (case hr => first | (go_simp; done) | (go_simp; rfl)); intro gb247 hg w11 hbox hb; have n0_ := Aside0.mk (Kd.R_below (rk HO240.out) hb); have n1_ := Aside0.mk (Kd.R_below (rk HO245.out) hb); have n2_ := Aside0.mk (blk_below (g := gb242) (o := .cells #[.slice Ao8 t238.length co8] 37 (0, 0)) (bk BK242.out) hb); have n3_ := Aside0.mk (below_step (hB HB.out) hb); have n4_ := Aside0.mk (hbox); have n5_ := Aside0.mk ((by rw [hg]; exact (below_size (hB HB.out)) : w.heap.size ≤ gb247)); have n6_ := Aside0.mk ((by rw [hg]; exact (below_size (hB HB.out)) : w.heap.size ≤ gb247)); have n7_ := Aside0.mk ((by rw [hg]; exact Nat.ne_of_lt (blk_lt (g := gb242) (o := .cells #[.slice Ao8 t238.length co8] 37 (0, 0)) (bk BK242.out)) : gb242 ≠ gb247)); have n8_ := Aside0.mk ((by rw [hg]; exact Nat.ne_of_gt (blk_lt (g := gb242) (o := .cells #[.slice Ao8 t238.length co8] 37 (0, 0)) (bk BK242.out)) : gb247 ≠ gb242)); clear HO240; clear HO245; clear BK242; clear HB; have HO240 := n0_; have HO245 := n1_; have BK242 := n2_; have HB := n3_; have BK247 := n4_; have GW247 := n5_; have GE247 := n6_; have NB242_247 := n7_; have NB247_242 := n8_; clear n0_ n1_ n2_ n3_ n4_ n5_ n6_ n7_ n8_; clear hb hbox hg; obtain ⟨Ao12, co12, eo12⟩ := Kd.R_slice HO245.out; subst eo12; have hnb13 := NB247_242.out; have hnc13 := NB242_247.out; have hcz14_0 : w11.cell? ⟨gb247, 0, none⟩ = some (.slice none 0 0) := (blk_cell BK247.out 0).trans rfl; have hfz14_0 := blk_frozen BK247.out 0))
  (try simp only [Act.put, List.setIfInBounds_toArray, List.set_cons_zero, List.set_cons_succ])
  go_cut [32] (fun v32 wc => ∃ (kq : Nat) (x32_4 : Bool), v32 = .bool x32_4 ∧ Aside0 (laws_FnExactParsePuzzle.j0 kq a0 t241 x32_4 t238 t243 = some r) ∧ Aside0 (kq ≤ k) ∧ Aside0 (Kd.R k64 64 wc w.heap.size (fun k_ => some k_ ≠ ((.slice Ao12 t243.length co12) : Value).ownBlock) (.slice Ao8 t238.length co8) t238) ∧ Aside0 (Kd.R k64 64 wc w.heap.size (fun k_ => some k_ ≠ ((.slice Ao8 t238.length co8) : Value).ownBlock) (.slice Ao12 t243.length co12) t243) ∧ Aside0 (wc.heap[gb242]? = some (.cells #[(.slice Ao8 t238.length co8)] 37 (0, 0))) ∧ Aside0 (wc.heap[gb247]? = some (.cells #[(.slice Ao12 t243.length co12)] 37 (0, 0))) ∧ Aside0 (Below w.heap.size w wc))
  case first =>
   have H := HC5.out
   clear HC5
   replace H := Option.bind_eq_some_iff.mp H
   obtain ⟨t248, A150, H⟩ := H
   replace H : (if t248 = true then (laws_FnExactParsePuzzle.j0 k a0 t241 (t246 != t241) t238 t243) else (laws_FnExactParsePuzzle.j0 k a0 t241 true t238 t243)) = some r := H
   have A15 := Aside0.mk A150
   clear A150
   by_cases c16 : t248 = true
   ·subst c16
    have H1 : (laws_FnExactParsePuzzle.j0 k a0 t241 (t246 != t241) t238 t243) = some r := by rw [if_pos rfl] at H; exact H
    clear H
    have H := H1
    clear H1
    have H' := Aside0.mk H
    clear H
    have hnb17 := NB247_242.out
    have hnc17 := NB242_247.out
    have hcz18_0 : w11.cell? ⟨gb247, 0, none⟩ = some (.slice none 0 0) := (blk_cell BK247.out 0).trans rfl
    have hfz18_0 := blk_frozen BK247.out 0
    have hcz19_0 : w11.cell? ⟨gb242, 0, none⟩ = some (.slice Ao8 t238.length co8) := (blk_cell BK242.out 0).trans rfl
    have hfz19_0 := blk_frozen BK242.out 0
    go_wp2_with (first | ((with_reducible refine gate_callee (f := 16) rfl ?_); refine goesL_ (some 26) rfl rfl Tryd.func16 (by kernel_rfl) rfl #[.agg #[.slice Ao12 t243.length co12], .agg #[.slice Ao8 t238.length co8]] rfl (by (try simp only [List.map_toArray, List.map_cons, List.map_nil]); first | done | rfl | (simp only [List.length_drop, List.length_take]; rfl)) ?_; (with_reducible refine (laws_eqPuzzle.calls k _ _ t243 _ _ t238 true _ ?side1 ?side2 ?side3 ?side4 A15.out).mono ?_); (case side1 => refine (Kd.R_reads' (e := 64) (base := w.heap.size) (ok := fun k_ => (True ∧ some k_ ≠ (.slice Ao8 t238.length co8 : Value).ownBlock)) (n := t243.length) (c := co12) ?_).2.2; exact (rk (Kd.R_mono (Kd.R_far (p := ⟨gb247, 0, none⟩) (Kd.R_types HO245.out BK247.out (by decide)) (fun _ hk => hk.2) (.slice Ao12 t243.length co12)) (fun _ h_ => h_.1)))); (case side2 => exact (Kd.R_reads' HO245.out).2.1); (case side3 => refine (Kd.R_reads' (e := 64) (base := w.heap.size) (ok := fun k_ => (True ∧ some k_ ≠ (.slice Ao12 t243.length co12 : Value).ownBlock)) (n := t238.length) (c := co8) ?_).2.2; exact (rk (Kd.R_mono (Kd.R_far (p := ⟨gb247, 0, none⟩) (Kd.R_types HO240.out BK247.out (by decide)) (fun _ hk => hk.2) (.slice Ao12 t243.length co12)) (fun _ h_ => h_.1)))); (case side4 => exact (Kd.R_reads' HO240.out).2.1); rintro e w20 ⟨rfl, hb⟩; refine ⟨_, rfl, ?_⟩; have n0_ := Aside0.mk (Kd.R_below (rk (Kd.R_mono (Kd.R_far (p := ⟨gb247, 0, none⟩) (Kd.R_types HO240.out BK247.out (by decide)) (fun _ hk => hk.2) (.slice Ao12 t243.length co12)) (fun _ h_ => h_.1))) hb); have n1_ := Aside0.mk (Kd.R_below (rk (Kd.R_mono (Kd.R_far (p := ⟨gb247, 0, none⟩) (Kd.R_types HO245.out BK247.out (by decide)) (fun _ hk => hk.2) (.slice Ao12 t243.length co12)) (fun _ h_ => h_.1))) hb); have n2_ := Aside0.mk (blk_below (g := gb242) (o := .cells #[.slice Ao8 t238.length co8] 37 (0, 0)) (by (with_reducible repeat (first | refine blk_drewN ?_ _ | refine blk_drew ?_ | refine blk_alloc ?_ _)); refine blk_far ?_ NB242_247.out _; (with_reducible repeat (first | refine blk_drewN ?_ _ | refine blk_drew ?_ | refine blk_alloc ?_ _)); exact BK242.out) hb); have n3_ := Aside0.mk (blk_below (g := gb247) (o := .cells #[.slice Ao12 t243.length co12] 37 (0, 0)) (by (with_reducible repeat (first | refine blk_drewN ?_ _ | refine blk_drew ?_ | refine blk_alloc ?_ _)); refine blk_put (cs := #[.slice none 0 0]) ?_ 0 _ rfl; (with_reducible repeat (first | refine blk_drewN ?_ _ | refine blk_drew ?_ | refine blk_alloc ?_ _)); exact BK247.out) hb); have n4_ := Aside0.mk (below_step (hB HB.out) hb); clear HO240; clear HO245; clear BK242; clear BK247; clear HB; have HO240 := n0_; have HO245 := n1_; have BK242 := n2_; have BK247 := n3_; have HB := n4_; clear n0_ n1_ n2_ n3_ n4_; (try clear hb); (try clear hb2); (try clear hk); (try clear hi)))
    go_meet
    case rel => exact ⟨_, ((t246 != t241)), (by first | rfl | (simp; done) | (simp [*]; done)), H', ⟨by first | omega | exact Nat.le_refl _⟩, ⟨rk (Kd.R_mono HO240.out (fun _ hk => hk.2))⟩, ⟨rk (Kd.R_mono HO245.out (fun _ hk => hk.2))⟩, ⟨bk BK242.out⟩, ⟨bk BK247.out⟩, ⟨hB HB.out⟩⟩
   ·replace c16 := Bool.eq_false_iff.mpr c16
    subst c16
    have H1 : (laws_FnExactParsePuzzle.j0 k a0 t241 true t238 t243) = some r := by rw [if_neg (show ¬ (false = true) by decide)] at H; exact H
    clear H
    have H := H1
    clear H1
    have H' := Aside0.mk H
    clear H
    have hnb21 := NB247_242.out
    have hnc21 := NB242_247.out
    have hcz22_0 : w11.cell? ⟨gb247, 0, none⟩ = some (.slice none 0 0) := (blk_cell BK247.out 0).trans rfl
    have hfz22_0 := blk_frozen BK247.out 0
    have hcz23_0 : w11.cell? ⟨gb242, 0, none⟩ = some (.slice Ao8 t238.length co8) := (blk_cell BK242.out 0).trans rfl
    have hfz23_0 := blk_frozen BK242.out 0
    go_wp2_with (first | ((with_reducible refine gate_callee (f := 16) rfl ?_); refine goesL_ (some 26) rfl rfl Tryd.func16 (by kernel_rfl) rfl #[.agg #[.slice Ao12 t243.length co12], .agg #[.slice Ao8 t238.length co8]] rfl (by (try simp only [List.map_toArray, List.map_cons, List.map_nil]); first | done | rfl | (simp only [List.length_drop, List.length_take]; rfl)) ?_; (with_reducible refine (laws_eqPuzzle.calls k _ _ t243 _ _ t238 false _ ?side1 ?side2 ?side3 ?side4 A15.out).mono ?_); (case side1 => refine (Kd.R_reads' (e := 64) (base := w.heap.size) (ok := fun k_ => (True ∧ some k_ ≠ (.slice Ao8 t238.length co8 : Value).ownBlock)) (n := t243.length) (c := co12) ?_).2.2; exact (rk (Kd.R_mono (Kd.R_far (p := ⟨gb247, 0, none⟩) (Kd.R_types HO245.out BK247.out (by decide)) (fun _ hk => hk.2) (.slice Ao12 t243.length co12)) (fun _ h_ => h_.1)))); (case side2 => exact (Kd.R_reads' HO245.out).2.1); (case side3 => refine (Kd.R_reads' (e := 64) (base := w.heap.size) (ok := fun k_ => (True ∧ some k_ ≠ (.slice Ao12 t243.length co12 : Value).ownBlock)) (n := t238.length) (c := co8) ?_).2.2; exact (rk (Kd.R_mono (Kd.R_far (p := ⟨gb247, 0, none⟩) (Kd.R_types HO240.out BK247.out (by decide)) (fun _ hk => hk.2) (.slice Ao12 t243.length co12)) (fun _ h_ => h_.1)))); (case side4 => exact (Kd.R_reads' HO240.out).2.1); rintro e w24 ⟨rfl, hb⟩; refine ⟨_, rfl, ?_⟩; have n0_ := Aside0.mk (Kd.R_below (rk (Kd.R_mono (Kd.R_far (p := ⟨gb247, 0, none⟩) (Kd.R_types HO240.out BK247.out (by decide)) (fun _ hk => hk.2) (.slice Ao12 t243.length co12)) (fun _ h_ => h_.1))) hb); have n1_ := Aside0.mk (Kd.R_below (rk (Kd.R_mono (Kd.R_far (p := ⟨gb247, 0, none⟩) (Kd.R_types HO245.out BK247.out (by decide)) (fun _ hk => hk.2) (.slice Ao12 t243.length co12)) (fun _ h_ => h_.1))) hb); have n2_ := Aside0.mk (blk_below (g := gb242) (o := .cells #[.slice Ao8 t238.length co8] 37 (0, 0)) (by (with_reducible repeat (first | refine blk_drewN ?_ _ | refine blk_drew ?_ | refine blk_alloc ?_ _)); refine blk_far ?_ NB242_247.out _; (with_reducible repeat (first | refine blk_drewN ?_ _ | refine blk_drew ?_ | refine blk_alloc ?_ _)); exact BK242.out) hb); have n3_ := Aside0.mk (blk_below (g := gb247) (o := .cells #[.slice Ao12 t243.length co12] 37 (0, 0)) (by (with_reducible repeat (first | refine blk_drewN ?_ _ | refine blk_drew ?_ | refine blk_alloc ?_ _)); refine blk_put (cs := #[.slice none 0 0]) ?_ 0 _ rfl; (with_reducible repeat (first | refine blk_drewN ?_ _ | refine blk_drew ?_ | refine blk_alloc ?_ _)); exact BK247.out) hb); have n4_ := Aside0.mk (below_step (hB HB.out) hb); clear HO240; clear HO245; clear BK242; clear BK247; clear HB; have HO240 := n0_; have HO245 := n1_; have BK242 := n2_; have BK247 := n3_; have HB := n4_; clear n0_ n1_ n2_ n3_ n4_; (try clear hb); (try clear hb2); (try clear hk); (try clear hi)))
    go_meet
    case rel => exact ⟨_, (true), (by first | rfl | (simp; done) | (simp [*]; done)), H', ⟨by first | omega | exact Nat.le_refl _⟩, ⟨rk (Kd.R_mono HO240.out (fun _ hk => hk.2))⟩, ⟨rk (Kd.R_mono HO245.out (fun _ hk => hk.2))⟩, ⟨bk BK242.out⟩, ⟨bk BK247.out⟩, ⟨hB HB.out⟩⟩
  case rest =>
   clear HC5
   try clear c1
   try clear c2
   try clear c2b0
   try clear c2b1
   try clear p2
   try clear c6
   try clear c13
   try clear c16
   try clear c17
   try clear c21
   try clear c22
   try clear hcz14_0
   try clear hcz18_0
   try clear hcz19_0
   try clear hcz22_0
   try clear hcz23_0
   try clear hcz9_0
   try clear hfz14_0
   try clear hfz18_0
   try clear hfz19_0
   try clear hfz22_0
   try clear hfz23_0
   try clear hfz9_0
   obtain ⟨kq, x32_4, rfl, HA, HJ4, HO_243000, HO_248000, BK242, BK247, HB⟩ := hcut
   cases kq with
   | zero => exact absurd HA.out (by simp [laws_FnExactParsePuzzle.j0])
   | succ kj4 =>
    have H := HA.out
    clear HA
    simp only [laws_FnExactParsePuzzle.j0] at H
    by_cases c25 : x32_4 = true
    ·subst c25
     have H1 : (some false) = some r := by rw [if_pos rfl] at H; exact H
     clear H
     have H := H1
     clear H1
     obtain rfl := Option.some.inj H
     go_wp2
     go_ret
     exact ⟨by first | rfl | (simp [errW_none, errW_some] <;> rfl) | (simp [*, errW_none, errW_some] <;> rfl), hB HB.out⟩
    ·replace c25 := Bool.eq_false_iff.mpr c25
     subst c25
     have H1 : ((laws_markPuzzle.f kj4 t243 1).bind fun bt249 => ((laws_heldPuzzle.f kj4 bt249.2 1).bind fun t251 => (if t251 < 0 then (some false) else (if t251 = bt249.1 then ((impl_ParsePuzzle.f kj4 a0).bind fun bt252 => ((laws_eqPuzzle.f kj4 bt252.1 t238).bind fun t257 => (if t257 = true then (laws_FnExactParsePuzzle.j1 kj4 bt249.1 (bt252.2 != t241) bt249.2) else (laws_FnExactParsePuzzle.j1 kj4 bt249.1 true bt249.2)))) else (some false))))) = some r := by rw [if_neg (show ¬ (false = true) by decide)] at H; exact H
     clear H
     have H := H1
     clear H1
     replace H := Option.bind_eq_some_iff.mp H
     obtain ⟨⟨t249, t250⟩, A260, H⟩ := H
     replace H : ((laws_heldPuzzle.f kj4 t250 1).bind fun t251 => (if t251 < 0 then (some false) else (if t251 = t249 then ((impl_ParsePuzzle.f kj4 a0).bind fun bt252 => ((laws_eqPuzzle.f kj4 bt252.1 t238).bind fun t257 => (if t257 = true then (laws_FnExactParsePuzzle.j1 kj4 t249 (bt252.2 != t241) t250) else (laws_FnExactParsePuzzle.j1 kj4 t249 true t250)))) else (some false)))) = some r := H
     have A26 := Aside0.mk A260
     clear A260
     replace H := Option.bind_eq_some_iff.mp H
     obtain ⟨t251, A270, H⟩ := H
     replace H : (if t251 < 0 then (some false) else (if t251 = t249 then ((impl_ParsePuzzle.f kj4 a0).bind fun bt252 => ((laws_eqPuzzle.f kj4 bt252.1 t238).bind fun t257 => (if t257 = true then (laws_FnExactParsePuzzle.j1 kj4 t249 (bt252.2 != t241) t250) else (laws_FnExactParsePuzzle.j1 kj4 t249 true t250)))) else (some false))) = some r := H
     have A27 := Aside0.mk A270
     clear A270
     by_cases c28 : t251 < 0
     ·rw [if_pos c28] at H
      have c28b0 : decide (t251 < 0) = true := decide_eq_true c28
      clear c28
      obtain rfl := Option.some.inj H
      have hnb29 := NB247_242.out
      have hnc29 := NB242_247.out
      have hcz30_0 : wc.cell? ⟨gb247, 0, none⟩ = some (.slice Ao12 t243.length co12) := (blk_cell BK247.out 0).trans rfl
      have hfz30_0 := blk_frozen BK247.out 0
      go_wp2_with (first | ((with_reducible refine gate_callee (f := 23) rfl ?_); refine goesL_ (some 35) rfl rfl Tryd.func23 (by kernel_rfl) rfl #[.agg #[.slice Ao12 t243.length co12], .int .i64 1] rfl (by (try simp only [List.map_toArray, List.map_cons, List.map_nil]); first | done | rfl | (simp only [List.length_drop, List.length_take]; rfl)) ?_; (with_reducible refine (laws_markPuzzle.calls kj4 (fun k_ => some k_ = (.slice Ao12 t243.length co12 : Value).ownBlock) (.slice Ao12 t243.length co12) t243 1 t249 t250 w _ ?side1 ?side2 A26.out).mono ?_); (case side1 => repeat (first | (with_reducible first | exact HB.out | apply below_alloc | apply pw_below_drewN | apply below_drew1 | refine below_set ?_ GE242.out | refine below_set ?_ GE247.out) | exact HB.out)); (case side2 => exact Kd.R_tight rfl HO_248000.out); rintro e w31 ⟨rfl, hy0, hb, hkp⟩; refine ⟨_, rfl, ?_⟩; have n0_ := Aside0.mk (Kd.R_mono (ok' := fun k_ => some k_ ≠ (.slice Ao12 t243.length co12 : Value).ownBlock) (Kd.R_keptB (HO_243000.out) hkp (fun k_ hk_ hs_ => (hk_) hs_)) (fun k_ hk_ => hk_.1)); have n1_ := Aside0.mk (Kd.R_reok rfl hy0 (fun k_ e_ => HO_248000.out.1 k_ e_)); have n2_ := Aside0.mk (blk_kept (bk BK242.out) hkp (fun hs_ => (fun e_ => (Kd.R_ne HO_248000.out BK242.out (by decide)) e_) hs_)); have n3_ := Aside0.mk (blk_kept (bk BK247.out) hkp (fun hs_ => (fun e_ => (Kd.R_ne HO_248000.out BK247.out (by decide)) e_) hs_)); have n4_ := Aside0.mk (hb); clear HO_243000; clear HO_248000; clear BK242; clear BK247; clear HB; have HO_243000 := n0_; have HO_248000 := n1_; have BK242 := n2_; have BK247 := n3_; have HB := n4_; clear n0_ n1_ n2_ n3_ n4_; (try clear hb); (try clear hkp); (try clear hy0); have hcz32_0 : w31.cell? ⟨gb247, 0, none⟩ = some (.slice Ao12 t243.length co12) := (blk_cell BK247.out 0).trans rfl; have hfz32_0 := blk_frozen BK247.out 0) | ((with_reducible refine gate_callee (f := 24) rfl ?_); refine goesL_ (some 38) rfl rfl Tryd.func24 (by kernel_rfl) rfl #[.agg #[.slice Ao12 t250.length co12], .int .i64 1] rfl (by (try simp only [List.map_toArray, List.map_cons, List.map_nil]); first | done | (rw [show t250.length = t243.length from (Kd.R_reads' HO_248000.out).1.symm] <;> rfl) | rfl | (simp only [List.length_drop, List.length_take]; rfl)) ?_; (with_reducible refine (laws_heldPuzzle.calls kj4 _ _ t250 1 t251 _ ?side1 ?side2 A27.out).mono ?_); (case side1 => repeat (first | exact (Kd.R_reads' HO_248000.out).2.2 | (with_reducible refine Kd.C_alloc ?_ _) | (with_reducible refine Kd.C_drewN ?_ _) | (with_reducible refine Kd.C_drew ?_))); (case side2 => rw [show t250.length = t243.length from (Kd.R_reads' HO_248000.out).1.symm]; exact (Kd.R_reads' HO_248000.out).2.1); rintro e w33 ⟨rfl, hb⟩; refine ⟨_, rfl, ?_⟩; have n0_ := Aside0.mk (Kd.R_below (rk HO_243000.out) hb); have n1_ := Aside0.mk (Kd.R_below (rk HO_248000.out) hb); have n2_ := Aside0.mk (blk_below (g := gb242) (o := .cells #[.slice Ao8 t238.length co8] 37 (0, 0)) (bk BK242.out) hb); have n3_ := Aside0.mk (blk_below (g := gb247) (o := .cells #[.slice Ao12 t243.length co12] 37 (0, 0)) (bk BK247.out) hb); have n4_ := Aside0.mk (below_step (hB HB.out) hb); clear HO_243000; clear HO_248000; clear BK242; clear BK247; clear HB; have HO_243000 := n0_; have HO_248000 := n1_; have BK242 := n2_; have BK247 := n3_; have HB := n4_; clear n0_ n1_ n2_ n3_ n4_; (try clear hb); (try clear hb2); (try clear hk); (try clear hi)))
      go_ret
      exact ⟨by first | rfl | (simp [errW_none, errW_some] <;> rfl) | (simp [*, errW_none, errW_some] <;> rfl), hB HB.out⟩
     ·rw [if_neg c28] at H
      have c28b0 : decide (t251 < 0) = false := decide_eq_false c28
      clear c28
      by_cases c34 : t251 = t249
      ·rw [if_pos c34] at H
       have c34b0 : (t251 == t249) = true := beq_iff_eq.mpr c34
       have c34b1 : (t251 != t249) = false := bne_eq_false_iff_eq.mpr c34
       clear c34
       replace H := Option.bind_eq_some_iff.mp H
       obtain ⟨⟨t252, t255⟩, A350, H⟩ := H
       replace H : ((laws_eqPuzzle.f kj4 t252 t238).bind fun t257 => (if t257 = true then (laws_FnExactParsePuzzle.j1 kj4 t249 (t255 != t241) t250) else (laws_FnExactParsePuzzle.j1 kj4 t249 true t250))) = some r := H
       have A35 := Aside0.mk A350
       clear A350
       have HC36 := Aside0.mk H
       clear H
       have hnb37 := NB247_242.out
       have hnc37 := NB242_247.out
       have hcz38_0 : wc.cell? ⟨gb247, 0, none⟩ = some (.slice Ao12 t243.length co12) := (blk_cell BK247.out 0).trans rfl
       have hfz38_0 := blk_frozen BK247.out 0
       go_upto_region 16 with (first | ((with_reducible refine gate_callee (f := 23) rfl ?_); refine goesL_ (some 35) rfl rfl Tryd.func23 (by kernel_rfl) rfl #[.agg #[.slice Ao12 t243.length co12], .int .i64 1] rfl (by (try simp only [List.map_toArray, List.map_cons, List.map_nil]); first | done | rfl | (simp only [List.length_drop, List.length_take]; rfl)) ?_; (with_reducible refine (laws_markPuzzle.calls kj4 (fun k_ => some k_ = (.slice Ao12 t243.length co12 : Value).ownBlock) (.slice Ao12 t243.length co12) t243 1 t249 t250 w _ ?side1 ?side2 A26.out).mono ?_); (case side1 => repeat (first | (with_reducible first | exact HB.out | apply below_alloc | apply pw_below_drewN | apply below_drew1 | refine below_set ?_ GE242.out | refine below_set ?_ GE247.out) | exact HB.out)); (case side2 => exact Kd.R_tight rfl HO_248000.out); rintro e w39 ⟨rfl, hy0, hb, hkp⟩; refine ⟨_, rfl, ?_⟩; have n0_ := Aside0.mk (Kd.R_mono (ok' := fun k_ => some k_ ≠ (.slice Ao12 t243.length co12 : Value).ownBlock) (Kd.R_keptB (HO_243000.out) hkp (fun k_ hk_ hs_ => (hk_) hs_)) (fun k_ hk_ => hk_.1)); have n1_ := Aside0.mk (Kd.R_reok rfl hy0 (fun k_ e_ => HO_248000.out.1 k_ e_)); have n2_ := Aside0.mk (blk_kept (bk BK242.out) hkp (fun hs_ => (fun e_ => (Kd.R_ne HO_248000.out BK242.out (by decide)) e_) hs_)); have n3_ := Aside0.mk (blk_kept (bk BK247.out) hkp (fun hs_ => (fun e_ => (Kd.R_ne HO_248000.out BK247.out (by decide)) e_) hs_)); have n4_ := Aside0.mk (hb); clear HO_243000; clear HO_248000; clear BK242; clear BK247; clear HB; have HO_243000 := n0_; have HO_248000 := n1_; have BK242 := n2_; have BK247 := n3_; have HB := n4_; clear n0_ n1_ n2_ n3_ n4_; (try clear hb); (try clear hkp); (try clear hy0); have hcz40_0 : w39.cell? ⟨gb247, 0, none⟩ = some (.slice Ao12 t243.length co12) := (blk_cell BK247.out 0).trans rfl; have hfz40_0 := blk_frozen BK247.out 0) | ((with_reducible refine gate_callee (f := 24) rfl ?_); refine goesL_ (some 38) rfl rfl Tryd.func24 (by kernel_rfl) rfl #[.agg #[.slice Ao12 t250.length co12], .int .i64 1] rfl (by (try simp only [List.map_toArray, List.map_cons, List.map_nil]); first | done | (rw [show t250.length = t243.length from (Kd.R_reads' HO_248000.out).1.symm] <;> rfl) | rfl | (simp only [List.length_drop, List.length_take]; rfl)) ?_; (with_reducible refine (laws_heldPuzzle.calls kj4 _ _ t250 1 t251 _ ?side1 ?side2 A27.out).mono ?_); (case side1 => repeat (first | exact (Kd.R_reads' HO_248000.out).2.2 | (with_reducible refine Kd.C_alloc ?_ _) | (with_reducible refine Kd.C_drewN ?_ _) | (with_reducible refine Kd.C_drew ?_))); (case side2 => rw [show t250.length = t243.length from (Kd.R_reads' HO_248000.out).1.symm]; exact (Kd.R_reads' HO_248000.out).2.1); rintro e w41 ⟨rfl, hb⟩; refine ⟨_, rfl, ?_⟩; have n0_ := Aside0.mk (Kd.R_below (rk HO_243000.out) hb); have n1_ := Aside0.mk (Kd.R_below (rk HO_248000.out) hb); have n2_ := Aside0.mk (blk_below (g := gb242) (o := .cells #[.slice Ao8 t238.length co8] 37 (0, 0)) (bk BK242.out) hb); have n3_ := Aside0.mk (blk_below (g := gb247) (o := .cells #[.slice Ao12 t243.length co12] 37 (0, 0)) (bk BK247.out) hb); have n4_ := Aside0.mk (below_step (hB HB.out) hb); clear HO_243000; clear HO_248000; clear BK242; clear BK247; clear HB; have HO_243000 := n0_; have HO_248000 := n1_; have BK242 := n2_; have BK247 := n3_; have HB := n4_; clear n0_ n1_ n2_ n3_ n4_; (try clear hb); (try clear hb2); (try clear hk); (try clear hi)) | ((with_reducible refine gate_callee (f := 22) rfl ?_); refine goesL_ (some 46) rfl rfl Tryd.func22 (by kernel_rfl) rfl #[.string a0] rfl (by (try simp only [List.map_toArray, List.map_cons, List.map_nil]); first | done | rfl | (simp only [List.length_drop, List.length_take]; rfl)) ?_; (with_reducible refine (impl_ParsePuzzle.calls kj4 a0 t252 t255 _ ?sideT A35.out).mono ?_); (case sideT => exact HT.out.below (hB HB.out)); rintro e w42 ⟨v253, rfl, ho0, hb⟩; refine ⟨_, rfl, ?_⟩; have n0_ := Aside0.mk (Kd.R_elder' (rk HO_243000.out) (Kd.R_base ho0) hb); have n1_ := Aside0.mk (Kd.R_elder' (rk HO_248000.out) (Kd.R_base ho0) hb); have n2_ := Aside0.mk (Kd.R_lower (Kd.R_new' (Kd.R_new' ho0 (Kd.R_lt (rk HO_243000.out))) (Kd.R_lt (rk HO_248000.out))) (below_size (hB HB.out))); have n3_ := Aside0.mk (blk_below (g := gb242) (o := .cells #[.slice Ao8 t238.length co8] 37 (0, 0)) (bk BK242.out) hb); have n4_ := Aside0.mk (blk_below (g := gb247) (o := .cells #[.slice Ao12 t243.length co12] 37 (0, 0)) (bk BK247.out) hb); have n5_ := Aside0.mk (below_step (hB HB.out) hb); clear HO_243000; clear HO_248000; clear BK242; clear BK247; clear HB; have HO_243000 := n0_; have HO_248000 := n1_; have HO254 := n2_; have BK242 := n3_; have BK247 := n4_; have HB := n5_; clear n0_ n1_ n2_ n3_ n4_ n5_; (try clear hb); (try clear hb2); (try clear hk); (try clear hi); (try clear ho0)) | ((with_reducible refine gate_dst (N := 9) rfl ?_); refine box_event ?hg (N := 9) ?hd (cs := #[.slice none 0 0]) (t := 37) ?hr ?_; (case hd => rfl); (case hg => rfl); (case hr => first | (go_simp; done) | (go_simp; rfl)); intro gb256 hg w43 hbox hb; have n0_ := Aside0.mk (Kd.R_below (rk HO_243000.out) hb); have n1_ := Aside0.mk (Kd.R_below (rk HO_248000.out) hb); have n2_ := Aside0.mk (Kd.R_below (rk HO254.out) hb); have n3_ := Aside0.mk (blk_below (g := gb242) (o := .cells #[.slice Ao8 t238.length co8] 37 (0, 0)) (bk BK242.out) hb); have n4_ := Aside0.mk (blk_below (g := gb247) (o := .cells #[.slice Ao12 t243.length co12] 37 (0, 0)) (bk BK247.out) hb); have n5_ := Aside0.mk (below_step (hB HB.out) hb); have n6_ := Aside0.mk (hbox); have n7_ := Aside0.mk ((by rw [hg]; exact (below_size (hB HB.out)) : w.heap.size ≤ gb256)); have n8_ := Aside0.mk ((by rw [hg]; exact (below_size (hB HB.out)) : w.heap.size ≤ gb256)); have n9_ := Aside0.mk ((by rw [hg]; exact Nat.ne_of_lt (blk_lt (g := gb242) (o := .cells #[.slice Ao8 t238.length co8] 37 (0, 0)) (bk BK242.out)) : gb242 ≠ gb256)); have n10_ := Aside0.mk ((by rw [hg]; exact Nat.ne_of_gt (blk_lt (g := gb242) (o := .cells #[.slice Ao8 t238.length co8] 37 (0, 0)) (bk BK242.out)) : gb256 ≠ gb242)); have n11_ := Aside0.mk ((by rw [hg]; exact Nat.ne_of_lt (blk_lt (g := gb247) (o := .cells #[.slice Ao12 t243.length co12] 37 (0, 0)) (bk BK247.out)) : gb247 ≠ gb256)); have n12_ := Aside0.mk ((by rw [hg]; exact Nat.ne_of_gt (blk_lt (g := gb247) (o := .cells #[.slice Ao12 t243.length co12] 37 (0, 0)) (bk BK247.out)) : gb256 ≠ gb247)); clear HO_243000; clear HO_248000; clear HO254; clear BK242; clear BK247; clear HB; have HO_243000 := n0_; have HO_248000 := n1_; have HO254 := n2_; have BK242 := n3_; have BK247 := n4_; have HB := n5_; have BK256 := n6_; have GW256 := n7_; have GE256 := n8_; have NB242_256 := n9_; have NB256_242 := n10_; have NB247_256 := n11_; have NB256_247 := n12_; clear n0_ n1_ n2_ n3_ n4_ n5_ n6_ n7_ n8_ n9_ n10_ n11_ n12_; clear hb hbox hg; obtain ⟨Ao44, co44, eo44⟩ := Kd.R_slice HO254.out; subst eo44; have hnb45 := NB256_242.out; have hnc45 := NB242_256.out; have hnb46 := NB256_247.out; have hnc46 := NB247_256.out; have hcz47_0 : w43.cell? ⟨gb256, 0, none⟩ = some (.slice none 0 0) := (blk_cell BK256.out 0).trans rfl; have hfz47_0 := blk_frozen BK256.out 0))
       (try simp only [Act.put, List.setIfInBounds_toArray, List.set_cons_zero, List.set_cons_succ])
       go_cut [57] (fun v57 wc => ∃ (kq : Nat) (x57_35 : Bool), v57 = .bool x57_35 ∧ Aside0 (laws_FnExactParsePuzzle.j1 kq t249 x57_35 t250 = some r) ∧ Aside0 (kq ≤ kj4) ∧ Aside0 (Kd.R k64 64 wc w.heap.size (fun k_ => some k_ ≠ ((.slice Ao12 t243.length co12) : Value).ownBlock ∧ some k_ ≠ ((.slice Ao44 t252.length co44) : Value).ownBlock) (.slice Ao8 t238.length co8) t238) ∧ Aside0 (Kd.R k64 64 wc w.heap.size (fun k_ => some k_ ≠ ((.slice Ao8 t238.length co8) : Value).ownBlock ∧ some k_ ≠ ((.slice Ao44 t252.length co44) : Value).ownBlock) (.slice Ao12 t243.length co12) t250) ∧ Aside0 (Kd.R k64 64 wc w.heap.size (fun k_ => some k_ ≠ ((.slice Ao8 t238.length co8) : Value).ownBlock ∧ some k_ ≠ ((.slice Ao12 t243.length co12) : Value).ownBlock) (.slice Ao44 t252.length co44) t252) ∧ Aside0 (wc.heap[gb242]? = some (.cells #[(.slice Ao8 t238.length co8)] 37 (0, 0))) ∧ Aside0 (wc.heap[gb247]? = some (.cells #[(.slice Ao12 t243.length co12)] 37 (0, 0))) ∧ Aside0 (wc.heap[gb256]? = some (.cells #[(.slice Ao44 t252.length co44)] 37 (0, 0))) ∧ Aside0 (Below w.heap.size w wc))
       case first =>
        have H := HC36.out
        clear HC36
        replace H := Option.bind_eq_some_iff.mp H
        obtain ⟨t257, A480, H⟩ := H
        replace H : (if t257 = true then (laws_FnExactParsePuzzle.j1 kj4 t249 (t255 != t241) t250) else (laws_FnExactParsePuzzle.j1 kj4 t249 true t250)) = some r := H
        have A48 := Aside0.mk A480
        clear A480
        by_cases c49 : t257 = true
        ·subst c49
         have H1 : (laws_FnExactParsePuzzle.j1 kj4 t249 (t255 != t241) t250) = some r := by rw [if_pos rfl] at H; exact H
         clear H
         have H := H1
         clear H1
         have H' := Aside0.mk H
         clear H
         have hnb50 := NB256_242.out
         have hnc50 := NB242_256.out
         have hnb51 := NB256_247.out
         have hnc51 := NB247_256.out
         have hcz52_0 : w43.cell? ⟨gb256, 0, none⟩ = some (.slice none 0 0) := (blk_cell BK256.out 0).trans rfl
         have hfz52_0 := blk_frozen BK256.out 0
         have hnb53 := NB242_247.out
         have hnc53 := NB247_242.out
         have hcz54_0 : w43.cell? ⟨gb242, 0, none⟩ = some (.slice Ao8 t238.length co8) := (blk_cell BK242.out 0).trans rfl
         have hfz54_0 := blk_frozen BK242.out 0
         go_wp2_with (first | ((with_reducible refine gate_callee (f := 16) rfl ?_); refine goesL_ (some 51) rfl rfl Tryd.func16 (by kernel_rfl) rfl #[.agg #[.slice Ao44 t252.length co44], .agg #[.slice Ao8 t238.length co8]] rfl (by (try simp only [List.map_toArray, List.map_cons, List.map_nil]); first | done | rfl | (simp only [List.length_drop, List.length_take]; rfl)) ?_; (with_reducible refine (laws_eqPuzzle.calls kj4 _ _ t252 _ _ t238 true _ ?side1 ?side2 ?side3 ?side4 A48.out).mono ?_); (case side1 => refine (Kd.R_reads' (e := 64) (base := w.heap.size) (ok := fun k_ => ((True ∧ some k_ ≠ (.slice Ao8 t238.length co8 : Value).ownBlock) ∧ some k_ ≠ (.slice Ao12 t243.length co12 : Value).ownBlock)) (n := t252.length) (c := co44) ?_).2.2; exact (rk (Kd.R_mono (Kd.R_far (p := ⟨gb256, 0, none⟩) (Kd.R_types HO254.out BK256.out (by decide)) (fun _ hk => hk.2) (.slice Ao44 t252.length co44)) (fun _ h_ => h_.1)))); (case side2 => exact (Kd.R_reads' HO254.out).2.1); (case side3 => refine (Kd.R_reads' (e := 64) (base := w.heap.size) (ok := fun k_ => (some k_ ≠ (.slice Ao12 t243.length co12 : Value).ownBlock ∧ some k_ ≠ (.slice Ao44 t252.length co44 : Value).ownBlock)) (n := t238.length) (c := co8) ?_).2.2; exact (rk (Kd.R_mono (Kd.R_far (p := ⟨gb256, 0, none⟩) (Kd.R_types HO_243000.out BK256.out (by decide)) (fun _ hk => hk.2) (.slice Ao44 t252.length co44)) (fun _ h_ => h_.1)))); (case side4 => exact (Kd.R_reads' HO_243000.out).2.1); rintro e w55 ⟨rfl, hb⟩; refine ⟨_, rfl, ?_⟩; have n0_ := Aside0.mk (Kd.R_below (rk (Kd.R_mono (Kd.R_far (p := ⟨gb256, 0, none⟩) (Kd.R_types HO_243000.out BK256.out (by decide)) (fun _ hk => hk.2) (.slice Ao44 t252.length co44)) (fun _ h_ => h_.1))) hb); have n1_ := Aside0.mk (Kd.R_below (rk (Kd.R_mono (Kd.R_far (p := ⟨gb256, 0, none⟩) (Kd.R_types HO_248000.out BK256.out (by decide)) (fun _ hk => hk.2) (.slice Ao44 t252.length co44)) (fun _ h_ => h_.1))) hb); have n2_ := Aside0.mk (Kd.R_below (rk (Kd.R_mono (Kd.R_far (p := ⟨gb256, 0, none⟩) (Kd.R_types HO254.out BK256.out (by decide)) (fun _ hk => hk.2) (.slice Ao44 t252.length co44)) (fun _ h_ => h_.1))) hb); have n3_ := Aside0.mk (blk_below (g := gb242) (o := .cells #[.slice Ao8 t238.length co8] 37 (0, 0)) (by (with_reducible repeat (first | refine blk_drewN ?_ _ | refine blk_drew ?_ | refine blk_alloc ?_ _)); refine blk_far ?_ NB242_256.out _; (with_reducible repeat (first | refine blk_drewN ?_ _ | refine blk_drew ?_ | refine blk_alloc ?_ _)); exact BK242.out) hb); have n4_ := Aside0.mk (blk_below (g := gb247) (o := .cells #[.slice Ao12 t243.length co12] 37 (0, 0)) (by (with_reducible repeat (first | refine blk_drewN ?_ _ | refine blk_drew ?_ | refine blk_alloc ?_ _)); refine blk_far ?_ NB247_256.out _; (with_reducible repeat (first | refine blk_drewN ?_ _ | refine blk_drew ?_ | refine blk_alloc ?_ _)); exact BK247.out) hb); have n5_ := Aside0.mk (blk_below (g := gb256) (o := .cells #[.slice Ao44 t252.length co44] 37 (0, 0)) (by (with_reducible repeat (first | refine blk_drewN ?_ _ | refine blk_drew ?_ | refine blk_alloc ?_ _)); refine blk_put (cs := #[.slice none 0 0]) ?_ 0 _ rfl; (with_reducible repeat (first | refine blk_drewN ?_ _ | refine blk_drew ?_ | refine blk_alloc ?_ _)); exact BK256.out) hb); have n6_ := Aside0.mk (below_step (hB HB.out) hb); clear HO_243000; clear HO_248000; clear HO254; clear BK242; clear BK247; clear BK256; clear HB; have HO_243000 := n0_; have HO_248000 := n1_; have HO254 := n2_; have BK242 := n3_; have BK247 := n4_; have BK256 := n5_; have HB := n6_; clear n0_ n1_ n2_ n3_ n4_ n5_ n6_; (try clear hb); (try clear hb2); (try clear hk); (try clear hi)))
         go_meet
         case rel => exact ⟨_, ((t255 != t241)), (by first | rfl | (simp; done) | (simp [*]; done)), H', ⟨by have := HJ4.out; first | omega | exact Nat.le_refl _⟩, ⟨rk HO_243000.out⟩, ⟨rk HO_248000.out⟩, ⟨rk (Kd.R_mono HO254.out (fun _ hk => ⟨hk.1.2, hk.2⟩))⟩, ⟨bk BK242.out⟩, ⟨bk BK247.out⟩, ⟨bk BK256.out⟩, ⟨hB HB.out⟩⟩
        ·replace c49 := Bool.eq_false_iff.mpr c49
         subst c49
         have H1 : (laws_FnExactParsePuzzle.j1 kj4 t249 true t250) = some r := by rw [if_neg (show ¬ (false = true) by decide)] at H; exact H
         clear H
         have H := H1
         clear H1
         have H' := Aside0.mk H
         clear H
         have hnb56 := NB256_242.out
         have hnc56 := NB242_256.out
         have hnb57 := NB256_247.out
         have hnc57 := NB247_256.out
         have hcz58_0 : w43.cell? ⟨gb256, 0, none⟩ = some (.slice none 0 0) := (blk_cell BK256.out 0).trans rfl
         have hfz58_0 := blk_frozen BK256.out 0
         have hnb59 := NB242_247.out
         have hnc59 := NB247_242.out
         have hcz60_0 : w43.cell? ⟨gb242, 0, none⟩ = some (.slice Ao8 t238.length co8) := (blk_cell BK242.out 0).trans rfl
         have hfz60_0 := blk_frozen BK242.out 0
         go_wp2_with (first | ((with_reducible refine gate_callee (f := 16) rfl ?_); refine goesL_ (some 51) rfl rfl Tryd.func16 (by kernel_rfl) rfl #[.agg #[.slice Ao44 t252.length co44], .agg #[.slice Ao8 t238.length co8]] rfl (by (try simp only [List.map_toArray, List.map_cons, List.map_nil]); first | done | rfl | (simp only [List.length_drop, List.length_take]; rfl)) ?_; (with_reducible refine (laws_eqPuzzle.calls kj4 _ _ t252 _ _ t238 false _ ?side1 ?side2 ?side3 ?side4 A48.out).mono ?_); (case side1 => refine (Kd.R_reads' (e := 64) (base := w.heap.size) (ok := fun k_ => ((True ∧ some k_ ≠ (.slice Ao8 t238.length co8 : Value).ownBlock) ∧ some k_ ≠ (.slice Ao12 t243.length co12 : Value).ownBlock)) (n := t252.length) (c := co44) ?_).2.2; exact (rk (Kd.R_mono (Kd.R_far (p := ⟨gb256, 0, none⟩) (Kd.R_types HO254.out BK256.out (by decide)) (fun _ hk => hk.2) (.slice Ao44 t252.length co44)) (fun _ h_ => h_.1)))); (case side2 => exact (Kd.R_reads' HO254.out).2.1); (case side3 => refine (Kd.R_reads' (e := 64) (base := w.heap.size) (ok := fun k_ => (some k_ ≠ (.slice Ao12 t243.length co12 : Value).ownBlock ∧ some k_ ≠ (.slice Ao44 t252.length co44 : Value).ownBlock)) (n := t238.length) (c := co8) ?_).2.2; exact (rk (Kd.R_mono (Kd.R_far (p := ⟨gb256, 0, none⟩) (Kd.R_types HO_243000.out BK256.out (by decide)) (fun _ hk => hk.2) (.slice Ao44 t252.length co44)) (fun _ h_ => h_.1)))); (case side4 => exact (Kd.R_reads' HO_243000.out).2.1); rintro e w61 ⟨rfl, hb⟩; refine ⟨_, rfl, ?_⟩; have n0_ := Aside0.mk (Kd.R_below (rk (Kd.R_mono (Kd.R_far (p := ⟨gb256, 0, none⟩) (Kd.R_types HO_243000.out BK256.out (by decide)) (fun _ hk => hk.2) (.slice Ao44 t252.length co44)) (fun _ h_ => h_.1))) hb); have n1_ := Aside0.mk (Kd.R_below (rk (Kd.R_mono (Kd.R_far (p := ⟨gb256, 0, none⟩) (Kd.R_types HO_248000.out BK256.out (by decide)) (fun _ hk => hk.2) (.slice Ao44 t252.length co44)) (fun _ h_ => h_.1))) hb); have n2_ := Aside0.mk (Kd.R_below (rk (Kd.R_mono (Kd.R_far (p := ⟨gb256, 0, none⟩) (Kd.R_types HO254.out BK256.out (by decide)) (fun _ hk => hk.2) (.slice Ao44 t252.length co44)) (fun _ h_ => h_.1))) hb); have n3_ := Aside0.mk (blk_below (g := gb242) (o := .cells #[.slice Ao8 t238.length co8] 37 (0, 0)) (by (with_reducible repeat (first | refine blk_drewN ?_ _ | refine blk_drew ?_ | refine blk_alloc ?_ _)); refine blk_far ?_ NB242_256.out _; (with_reducible repeat (first | refine blk_drewN ?_ _ | refine blk_drew ?_ | refine blk_alloc ?_ _)); exact BK242.out) hb); have n4_ := Aside0.mk (blk_below (g := gb247) (o := .cells #[.slice Ao12 t243.length co12] 37 (0, 0)) (by (with_reducible repeat (first | refine blk_drewN ?_ _ | refine blk_drew ?_ | refine blk_alloc ?_ _)); refine blk_far ?_ NB247_256.out _; (with_reducible repeat (first | refine blk_drewN ?_ _ | refine blk_drew ?_ | refine blk_alloc ?_ _)); exact BK247.out) hb); have n5_ := Aside0.mk (blk_below (g := gb256) (o := .cells #[.slice Ao44 t252.length co44] 37 (0, 0)) (by (with_reducible repeat (first | refine blk_drewN ?_ _ | refine blk_drew ?_ | refine blk_alloc ?_ _)); refine blk_put (cs := #[.slice none 0 0]) ?_ 0 _ rfl; (with_reducible repeat (first | refine blk_drewN ?_ _ | refine blk_drew ?_ | refine blk_alloc ?_ _)); exact BK256.out) hb); have n6_ := Aside0.mk (below_step (hB HB.out) hb); clear HO_243000; clear HO_248000; clear HO254; clear BK242; clear BK247; clear BK256; clear HB; have HO_243000 := n0_; have HO_248000 := n1_; have HO254 := n2_; have BK242 := n3_; have BK247 := n4_; have BK256 := n5_; have HB := n6_; clear n0_ n1_ n2_ n3_ n4_ n5_ n6_; (try clear hb); (try clear hb2); (try clear hk); (try clear hi)))
         go_meet
         case rel => exact ⟨_, (true), (by first | rfl | (simp; done) | (simp [*]; done)), H', ⟨by have := HJ4.out; first | omega | exact Nat.le_refl _⟩, ⟨rk HO_243000.out⟩, ⟨rk HO_248000.out⟩, ⟨rk (Kd.R_mono HO254.out (fun _ hk => ⟨hk.1.2, hk.2⟩))⟩, ⟨bk BK242.out⟩, ⟨bk BK247.out⟩, ⟨bk BK256.out⟩, ⟨hB HB.out⟩⟩
       case rest =>
        clear HC36
        try clear c1
        try clear c2
        try clear c2b0
        try clear c2b1
        try clear p2
        try clear c3
        try clear c4
        try clear c5
        try clear c6
        try clear c13
        try clear c16
        try clear c17
        try clear c21
        try clear c22
        try clear c23
        try clear c24
        try clear c25
        try clear c28
        try clear c28b0
        try clear c29
        try clear c34
        try clear c34b0
        try clear c34b1
        try clear c37
        try clear c45
        try clear c46
        try clear c49
        try clear c50
        try clear c51
        try clear c53
        try clear c56
        try clear c57
        try clear c59
        try clear hcz14_0
        try clear hcz18_0
        try clear hcz19_0
        try clear hcz22_0
        try clear hcz23_0
        try clear hcz30_0
        try clear hcz32_0
        try clear hcz38_0
        try clear hcz40_0
        try clear hcz47_0
        try clear hcz52_0
        try clear hcz54_0
        try clear hcz58_0
        try clear hcz60_0
        try clear hcz9_0
        try clear hfz14_0
        try clear hfz18_0
        try clear hfz19_0
        try clear hfz22_0
        try clear hfz23_0
        try clear hfz30_0
        try clear hfz32_0
        try clear hfz38_0
        try clear hfz40_0
        try clear hfz47_0
        try clear hfz52_0
        try clear hfz54_0
        try clear hfz58_0
        try clear hfz60_0
        try clear hfz9_0
        try clear p2
        obtain ⟨kq, x57_35, rfl, HA, HJ35, HO_243000, HO_248000, HO_257000, BK242, BK247, BK256, HB⟩ := hcut
        have hl248000_35 := (Kd.R_reads' HO_248000.out).1
        rw [hl248000_35] at HO_248000
        (try simp only [hl248000_35])
        (try simp only [hl248000_35] at BK242)
        (try simp only [hl248000_35] at BK247)
        (try simp only [hl248000_35] at BK256)
        (try simp only [hl248000_35] at HO_243000)
        (try simp only [hl248000_35] at HO_257000)
        cases kq with
        | zero => exact absurd HA.out (by simp [laws_FnExactParsePuzzle.j1])
        | succ kj35 =>
         have H := HA.out
         clear HA
         simp only [laws_FnExactParsePuzzle.j1] at H
         by_cases c62 : x57_35 = true
         ·subst c62
          have H1 : (some false) = some r := by rw [if_pos rfl] at H; exact H
          clear H
          have H := H1
          clear H1
          obtain rfl := Option.some.inj H
          go_wp2
          go_ret
          exact ⟨by first | rfl | (simp [errW_none, errW_some] <;> rfl) | (simp [*, errW_none, errW_some] <;> rfl), hB HB.out⟩
         ·replace c62 := Bool.eq_false_iff.mpr c62
          subst c62
          have H1 : ((laws_heldPuzzle.f kj35 t250 1).bind fun t258 => (if t258 < 0 then (some false) else (if t258 = t249 then (some true) else (some false)))) = some r := by rw [if_neg (show ¬ (false = true) by decide)] at H; exact H
          clear H
          have H := H1
          clear H1
          replace H := Option.bind_eq_some_iff.mp H
          obtain ⟨t258, A630, H⟩ := H
          replace H : (if t258 < 0 then (some false) else (if t258 = t249 then (some true) else (some false))) = some r := H
          have A63 := Aside0.mk A630
          clear A630
          by_cases c64 : t258 < 0
          ·rw [if_pos c64] at H
           have c64b0 : decide (t258 < 0) = true := decide_eq_true c64
           clear c64
           obtain rfl := Option.some.inj H
           have hnb65 := NB247_242.out
           have hnc65 := NB242_247.out
           have hnb66 := NB247_256.out
           have hnc66 := NB256_247.out
           have hcz67_0 : wc.cell? ⟨gb247, 0, none⟩ = some (.slice Ao12 t250.length co12) := (blk_cell BK247.out 0).trans rfl
           have hfz67_0 := blk_frozen BK247.out 0
           go_wp2_with (first | ((with_reducible refine gate_callee (f := 24) rfl ?_); refine goesL_ (some 60) rfl rfl Tryd.func24 (by kernel_rfl) rfl #[.agg #[.slice Ao12 t250.length co12], .int .i64 1] rfl (by (try simp only [List.map_toArray, List.map_cons, List.map_nil]); first | done | rfl | (simp only [List.length_drop, List.length_take]; rfl)) ?_; (with_reducible refine (laws_heldPuzzle.calls kj35 _ _ t250 1 t258 _ ?side1 ?side2 A63.out).mono ?_); (case side1 => repeat (first | exact (Kd.R_reads' HO_248000.out).2.2 | (with_reducible refine Kd.C_alloc ?_ _) | (with_reducible refine Kd.C_drewN ?_ _) | (with_reducible refine Kd.C_drew ?_))); (case side2 => exact (Kd.R_reads' HO_248000.out).2.1); rintro e w68 ⟨rfl, hb⟩; refine ⟨_, rfl, ?_⟩; have n0_ := Aside0.mk (Kd.R_below (rk HO_243000.out) hb); have n1_ := Aside0.mk (Kd.R_below (rk HO_248000.out) hb); have n2_ := Aside0.mk (Kd.R_below (rk HO_257000.out) hb); have n3_ := Aside0.mk (blk_below (g := gb242) (o := .cells #[.slice Ao8 t238.length co8] 37 (0, 0)) (bk BK242.out) hb); have n4_ := Aside0.mk (blk_below (g := gb247) (o := .cells #[.slice Ao12 t250.length co12] 37 (0, 0)) (bk BK247.out) hb); have n5_ := Aside0.mk (blk_below (g := gb256) (o := .cells #[.slice Ao44 t252.length co44] 37 (0, 0)) (bk BK256.out) hb); have n6_ := Aside0.mk (below_step (hB HB.out) hb); clear HO_243000; clear HO_248000; clear HO_257000; clear BK242; clear BK247; clear BK256; clear HB; have HO_243000 := n0_; have HO_248000 := n1_; have HO_257000 := n2_; have BK242 := n3_; have BK247 := n4_; have BK256 := n5_; have HB := n6_; clear n0_ n1_ n2_ n3_ n4_ n5_ n6_; (try clear hb); (try clear hb2); (try clear hk); (try clear hi)))
           go_ret
           exact ⟨by first | rfl | (simp [errW_none, errW_some] <;> rfl) | (simp [*, errW_none, errW_some] <;> rfl), hB HB.out⟩
          ·rw [if_neg c64] at H
           have c64b0 : decide (t258 < 0) = false := decide_eq_false c64
           clear c64
           by_cases c69 : t258 = t249
           ·rw [if_pos c69] at H
            have c69b0 : (t258 == t249) = true := beq_iff_eq.mpr c69
            have c69b1 : (t258 != t249) = false := bne_eq_false_iff_eq.mpr c69
            clear c69
            obtain rfl := Option.some.inj H
            have hnb70 := NB247_242.out
            have hnc70 := NB242_247.out
            have hnb71 := NB247_256.out
            have hnc71 := NB256_247.out
            have hcz72_0 : wc.cell? ⟨gb247, 0, none⟩ = some (.slice Ao12 t250.length co12) := (blk_cell BK247.out 0).trans rfl
            have hfz72_0 := blk_frozen BK247.out 0
            go_wp2_with (first | ((with_reducible refine gate_callee (f := 24) rfl ?_); refine goesL_ (some 60) rfl rfl Tryd.func24 (by kernel_rfl) rfl #[.agg #[.slice Ao12 t250.length co12], .int .i64 1] rfl (by (try simp only [List.map_toArray, List.map_cons, List.map_nil]); first | done | rfl | (simp only [List.length_drop, List.length_take]; rfl)) ?_; (with_reducible refine (laws_heldPuzzle.calls kj35 _ _ t250 1 t258 _ ?side1 ?side2 A63.out).mono ?_); (case side1 => repeat (first | exact (Kd.R_reads' HO_248000.out).2.2 | (with_reducible refine Kd.C_alloc ?_ _) | (with_reducible refine Kd.C_drewN ?_ _) | (with_reducible refine Kd.C_drew ?_))); (case side2 => exact (Kd.R_reads' HO_248000.out).2.1); rintro e w73 ⟨rfl, hb⟩; refine ⟨_, rfl, ?_⟩; have n0_ := Aside0.mk (Kd.R_below (rk HO_243000.out) hb); have n1_ := Aside0.mk (Kd.R_below (rk HO_248000.out) hb); have n2_ := Aside0.mk (Kd.R_below (rk HO_257000.out) hb); have n3_ := Aside0.mk (blk_below (g := gb242) (o := .cells #[.slice Ao8 t238.length co8] 37 (0, 0)) (bk BK242.out) hb); have n4_ := Aside0.mk (blk_below (g := gb247) (o := .cells #[.slice Ao12 t250.length co12] 37 (0, 0)) (bk BK247.out) hb); have n5_ := Aside0.mk (blk_below (g := gb256) (o := .cells #[.slice Ao44 t252.length co44] 37 (0, 0)) (bk BK256.out) hb); have n6_ := Aside0.mk (below_step (hB HB.out) hb); clear HO_243000; clear HO_248000; clear HO_257000; clear BK242; clear BK247; clear BK256; clear HB; have HO_243000 := n0_; have HO_248000 := n1_; have HO_257000 := n2_; have BK242 := n3_; have BK247 := n4_; have BK256 := n5_; have HB := n6_; clear n0_ n1_ n2_ n3_ n4_ n5_ n6_; (try clear hb); (try clear hb2); (try clear hk); (try clear hi)))
            go_ret
            exact ⟨by first | rfl | (simp [errW_none, errW_some] <;> rfl) | (simp [*, errW_none, errW_some] <;> rfl), hB HB.out⟩
           ·rw [if_neg c69] at H
            have c69b0 : (t258 == t249) = false := beq_eq_false_iff_ne.mpr c69
            have c69b1 : (t258 != t249) = true := bne_iff_ne.mpr c69
            obtain rfl := Option.some.inj H
            have hnb74 := NB247_242.out
            have hnc74 := NB242_247.out
            have hnb75 := NB247_256.out
            have hnc75 := NB256_247.out
            have hcz76_0 : wc.cell? ⟨gb247, 0, none⟩ = some (.slice Ao12 t250.length co12) := (blk_cell BK247.out 0).trans rfl
            have hfz76_0 := blk_frozen BK247.out 0
            go_wp2_with (first | ((with_reducible refine gate_callee (f := 24) rfl ?_); refine goesL_ (some 60) rfl rfl Tryd.func24 (by kernel_rfl) rfl #[.agg #[.slice Ao12 t250.length co12], .int .i64 1] rfl (by (try simp only [List.map_toArray, List.map_cons, List.map_nil]); first | done | rfl | (simp only [List.length_drop, List.length_take]; rfl)) ?_; (with_reducible refine (laws_heldPuzzle.calls kj35 _ _ t250 1 t258 _ ?side1 ?side2 A63.out).mono ?_); (case side1 => repeat (first | exact (Kd.R_reads' HO_248000.out).2.2 | (with_reducible refine Kd.C_alloc ?_ _) | (with_reducible refine Kd.C_drewN ?_ _) | (with_reducible refine Kd.C_drew ?_))); (case side2 => exact (Kd.R_reads' HO_248000.out).2.1); rintro e w77 ⟨rfl, hb⟩; refine ⟨_, rfl, ?_⟩; have n0_ := Aside0.mk (Kd.R_below (rk HO_243000.out) hb); have n1_ := Aside0.mk (Kd.R_below (rk HO_248000.out) hb); have n2_ := Aside0.mk (Kd.R_below (rk HO_257000.out) hb); have n3_ := Aside0.mk (blk_below (g := gb242) (o := .cells #[.slice Ao8 t238.length co8] 37 (0, 0)) (bk BK242.out) hb); have n4_ := Aside0.mk (blk_below (g := gb247) (o := .cells #[.slice Ao12 t250.length co12] 37 (0, 0)) (bk BK247.out) hb); have n5_ := Aside0.mk (blk_below (g := gb256) (o := .cells #[.slice Ao44 t252.length co44] 37 (0, 0)) (bk BK256.out) hb); have n6_ := Aside0.mk (below_step (hB HB.out) hb); clear HO_243000; clear HO_248000; clear HO_257000; clear BK242; clear BK247; clear BK256; clear HB; have HO_243000 := n0_; have HO_248000 := n1_; have HO_257000 := n2_; have BK242 := n3_; have BK247 := n4_; have BK256 := n5_; have HB := n6_; clear n0_ n1_ n2_ n3_ n4_ n5_ n6_; (try clear hb); (try clear hb2); (try clear hk); (try clear hi)))
            go_ret
            exact ⟨by first | rfl | (simp [errW_none, errW_some] <;> rfl) | (simp [*, errW_none, errW_some] <;> rfl), hB HB.out⟩
      ·rw [if_neg c34] at H
       have c34b0 : (t251 == t249) = false := beq_eq_false_iff_ne.mpr c34
       have c34b1 : (t251 != t249) = true := bne_iff_ne.mpr c34
       obtain rfl := Option.some.inj H
       have hnb78 := NB247_242.out
       have hnc78 := NB242_247.out
       have hcz79_0 : wc.cell? ⟨gb247, 0, none⟩ = some (.slice Ao12 t243.length co12) := (blk_cell BK247.out 0).trans rfl
       have hfz79_0 := blk_frozen BK247.out 0
       go_wp2_with (first | ((with_reducible refine gate_callee (f := 23) rfl ?_); refine goesL_ (some 35) rfl rfl Tryd.func23 (by kernel_rfl) rfl #[.agg #[.slice Ao12 t243.length co12], .int .i64 1] rfl (by (try simp only [List.map_toArray, List.map_cons, List.map_nil]); first | done | rfl | (simp only [List.length_drop, List.length_take]; rfl)) ?_; (with_reducible refine (laws_markPuzzle.calls kj4 (fun k_ => some k_ = (.slice Ao12 t243.length co12 : Value).ownBlock) (.slice Ao12 t243.length co12) t243 1 t249 t250 w _ ?side1 ?side2 A26.out).mono ?_); (case side1 => repeat (first | (with_reducible first | exact HB.out | apply below_alloc | apply pw_below_drewN | apply below_drew1 | refine below_set ?_ GE242.out | refine below_set ?_ GE247.out) | exact HB.out)); (case side2 => exact Kd.R_tight rfl HO_248000.out); rintro e w80 ⟨rfl, hy0, hb, hkp⟩; refine ⟨_, rfl, ?_⟩; have n0_ := Aside0.mk (Kd.R_mono (ok' := fun k_ => some k_ ≠ (.slice Ao12 t243.length co12 : Value).ownBlock) (Kd.R_keptB (HO_243000.out) hkp (fun k_ hk_ hs_ => (hk_) hs_)) (fun k_ hk_ => hk_.1)); have n1_ := Aside0.mk (Kd.R_reok rfl hy0 (fun k_ e_ => HO_248000.out.1 k_ e_)); have n2_ := Aside0.mk (blk_kept (bk BK242.out) hkp (fun hs_ => (fun e_ => (Kd.R_ne HO_248000.out BK242.out (by decide)) e_) hs_)); have n3_ := Aside0.mk (blk_kept (bk BK247.out) hkp (fun hs_ => (fun e_ => (Kd.R_ne HO_248000.out BK247.out (by decide)) e_) hs_)); have n4_ := Aside0.mk (hb); clear HO_243000; clear HO_248000; clear BK242; clear BK247; clear HB; have HO_243000 := n0_; have HO_248000 := n1_; have BK242 := n2_; have BK247 := n3_; have HB := n4_; clear n0_ n1_ n2_ n3_ n4_; (try clear hb); (try clear hkp); (try clear hy0); have hcz81_0 : w80.cell? ⟨gb247, 0, none⟩ = some (.slice Ao12 t243.length co12) := (blk_cell BK247.out 0).trans rfl; have hfz81_0 := blk_frozen BK247.out 0) | ((with_reducible refine gate_callee (f := 24) rfl ?_); refine goesL_ (some 38) rfl rfl Tryd.func24 (by kernel_rfl) rfl #[.agg #[.slice Ao12 t250.length co12], .int .i64 1] rfl (by (try simp only [List.map_toArray, List.map_cons, List.map_nil]); first | done | (rw [show t250.length = t243.length from (Kd.R_reads' HO_248000.out).1.symm] <;> rfl) | rfl | (simp only [List.length_drop, List.length_take]; rfl)) ?_; (with_reducible refine (laws_heldPuzzle.calls kj4 _ _ t250 1 t251 _ ?side1 ?side2 A27.out).mono ?_); (case side1 => repeat (first | exact (Kd.R_reads' HO_248000.out).2.2 | (with_reducible refine Kd.C_alloc ?_ _) | (with_reducible refine Kd.C_drewN ?_ _) | (with_reducible refine Kd.C_drew ?_))); (case side2 => rw [show t250.length = t243.length from (Kd.R_reads' HO_248000.out).1.symm]; exact (Kd.R_reads' HO_248000.out).2.1); rintro e w82 ⟨rfl, hb⟩; refine ⟨_, rfl, ?_⟩; have n0_ := Aside0.mk (Kd.R_below (rk HO_243000.out) hb); have n1_ := Aside0.mk (Kd.R_below (rk HO_248000.out) hb); have n2_ := Aside0.mk (blk_below (g := gb242) (o := .cells #[.slice Ao8 t238.length co8] 37 (0, 0)) (bk BK242.out) hb); have n3_ := Aside0.mk (blk_below (g := gb247) (o := .cells #[.slice Ao12 t243.length co12] 37 (0, 0)) (bk BK247.out) hb); have n4_ := Aside0.mk (below_step (hB HB.out) hb); clear HO_243000; clear HO_248000; clear BK242; clear BK247; clear HB; have HO_243000 := n0_; have HO_248000 := n1_; have BK242 := n2_; have BK247 := n3_; have HB := n4_; clear n0_ n1_ n2_ n3_ n4_; (try clear hb); (try clear hb2); (try clear hk); (try clear hi)))
       go_ret
       exact ⟨by first | rfl | (simp [errW_none, errW_some] <;> rfl) | (simp [*, errW_none, errW_some] <;> rfl), hB HB.out⟩

/-- THE ONE PURE STATEMENT of laws_FnExactParsePuzzle: yours. -/
def laws_FnExactParsePuzzle.Pure : Prop := ∀ (a0 : ByteArray), a0.size ≤ 140737488351232 → ∃ k, laws_FnExactParsePuzzle.f k a0 = some true
theorem laws_FnExactParsePuzzle.walk (P : laws_FnExactParsePuzzle.Pure) (a0 : ByteArray) (w : World) (hT : DoorW Tryd.prog w) (w0 : a0.size ≤ 140737488351232) :
  Calls Tryd.prog 6 #[.string a0] w fun e w' => e = .returned (.bool true) ∧ Below w.heap.size w w' := by
 obtain ⟨k, h⟩ := P a0 w0
 refine (laws_FnExactParsePuzzle.calls k a0 true w hT h).mono ?_
 rintro e w' ⟨rfl, hd⟩
 exact ⟨rfl, hd⟩

end Go.Proofs.YtjllomlemhjlgaaDoor.QFnExactParsePuzzle
