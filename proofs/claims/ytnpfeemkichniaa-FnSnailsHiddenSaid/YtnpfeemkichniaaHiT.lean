import Derived.Test.YtnpfeemkichniaaPc
import Derived.Test.YtnpfeemkichniaaHiC
namespace Go.Proofs.Ytnpfeemkichniaa.Hi
open Go Go.Proofs.YtnpfeemkichniaaPi Go.RowKit
set_option maxRecDepth 100000
set_option linter.unusedVariables false
/-! ### del67: function 67 -/
set_option maxHeartbeats 8000000 in
set_option maxRecDepth 1000000 in
theorem del67.own_calls (g cap n i j : Nat) (xs : List Value) (w : World) (h : w.ownsRow 0 28 3 (.slice (some ⟨g, 0, none⟩) n cap) n xs) (h1 : ∀ u ∈ xs, u.oneCell' = true) (hj : j = i + 1) (hi : i < n) (hn : n ≤ 5000000000000) (hm : cap ≤ 9223372036854775807) (hcap : n ≤ cap) :
  Calls Try.prog 67 #[.slice (some ⟨g, 0, none⟩) n cap, .int .i64 i, .int .i64 j] w fun e w' => e = .returned (.slice (some ⟨g, 0, none⟩) (n - 1) cap) ∧ w'.ownsRow 0 28 3 (.slice (some ⟨g, 0, none⟩) (n - 1) cap) (n - 1) (xs.take (i * 3) ++ xs.drop (j * 3)) ∧ (w'.os = w.os ∧ w'.tape = w.tape ∧ w'.output = w.output ∧ w.heap.size ≤ w'.heap.size) ∧ ∀ k, k ≠ g → w'.heap[k]? = w.heap[k]? := by
 have hl : xs.length = n * 3 := h.1
 have hu28 := Try.underlying28
 have hu24 := Try.underlying24
 obtain ⟨i0, hi0, hz1⟩ : ∃ i0, Try.prog.info? 28 = some i0 ∧ i0.size = 3 := ⟨(Try.prog.info? 28).get (by kernel_rfl), (Option.some_get _).symm, by kernel_rfl⟩
 have v23 : ∀ w, (zeroValue 28).run Try.prog w = .ok (.agg #[.int .i64 0, .int .i64 0, .int .i64 0]) w := by intro w; first | kernel_rfl | rfl
 obtain ⟨news, hnews⟩ : ∃ news, news = xs.drop (j * 3) := ⟨_, rfl⟩
 have hlen : news.length = (n - j) * 3 := by rw [hnews, List.length_drop, hl]; omega
 obtain ⟨A, hA, hsrc⟩ : ∃ A : Addr, (if cap = j then (some (⟨g, 0, none⟩ : Addr)) else some ⟨g, j * 3, none⟩) = some A ∧ Hid (∀ t u, news[t]? = some u → w.drew.cell? (A.add t) = some u) := by
  by_cases hc : cap = j
  · refine ⟨⟨g, 0, none⟩, by simp [hc], fun t u hu => ?_⟩
    have h0 : news.length = 0 := by rw [hlen]; omega
    rw [List.length_eq_zero_iff.1 h0] at hu
    simp at hu
  · refine ⟨⟨g, j * 3, none⟩, by simp [hc], fun t u hu => ?_⟩
    have ht := (List.getElem?_eq_some_iff.1 hu).1
    rw [Addr.add_lit]
    show w.cell? _ = some u
    rw [World.ownsRow.cellAt h _ (by omega), ← hu, hnews, List.getElem?_drop]
 have s1 : Hid (news.length = (n - j) * 3) := hlen
 have s2 : Hid (∀ u ∈ news, u.oneCell' = true) := fun u hu => h1 u (by rw [hnews] at hu; exact List.mem_of_mem_drop hu)
 have s3 : Hid (∀ t, t < news.length → (w.drew.cell? ⟨g, 0 + i * 3 + t, none⟩).isSome = true ∧ w.drew.frozen? ⟨g, 0 + i * 3 + t, none⟩ = false) := by
  intro t ht
  refine ⟨?_, World.ownsRow.frozenAt h _⟩
  show (w.cell? _).isSome = true
  rw [World.ownsRow.cellAt h _ (by omega), List.getElem?_eq_getElem (by omega)]
  rfl
 obtain ⟨W1, hW1⟩ : ∃ W1, W1 = w.drew.setCells g (0 + i * 3) news := ⟨_, rfl⟩
 have hown : W1.ownsRow 0 28 3 (.slice (some ⟨g, 0, none⟩) n cap) n (xs.take (i * 3) ++ news ++ xs.drop (i * 3 + news.length)) := by
  rw [hW1, Nat.zero_add]
  exact own_setCells news w.drew xs (i * 3) h (by omega)
 have hcl : ∀ ty, (Builtin.clear_ #[24] ty #[.slice (some ⟨g, (i + (n - j)) * 3, none⟩) (n - (i + (n - j))) (cap - (i + (n - j)))]).run Try.prog W1 = .ok (.tuple #[]) (W1.setCells g ((i + (n - j)) * 3) [.int .i64 0, .int .i64 0, .int .i64 0]) := by
  intro ty
  rw [show n - (i + (n - j)) = 1 by omega]
  exact run_clear_one W1 _ _ ty (.agg #[.int .i64 0, .int .i64 0, .int .i64 0]) hu24 v23 (by intro v hv; simp [Value.cells] at hv; subst hv; rfl) g _ _
   (fun t ht => by
     have ht3 : t < 3 := ht
     rw [World.ownsRow.cellAt hown _ (by omega), List.getElem?_eq_getElem (by have := hown.1; omega)]; rfl) (fun t ht => World.ownsRow.frozenAt hown _)
 have X : Aside (W1.ownsRow 0 28 3 (.slice (some ⟨g, 0, none⟩) n cap) n (xs.take (i * 3) ++ news ++ xs.drop (i * 3 + news.length))) := hown
 have hW : Hid (W1 = w.drew.setCells g (0 + i * 3) news) := hW1
 have hN : Hid (news = xs.drop (j * 3)) := hnews
 have hic : i ≤ cap := by omega
 have hjc : j ≤ cap := by omega
 have hij : i ≤ j := by omega
 have hjn : j ≤ n := by omega
 have mixed : Try.prog.follows .mixedOrders = true := by kernel_rfl
 have hE : ((i : Int) == (j : Int)) = false := by simp; omega
 clear hW1 hown hnews hlen
 have HJ := Aside0.mk hj
 clear hj
 have H0 := Aside0.mk h
 have H1 := Aside0.mk h1
 clear h h1
 go_enter Try.func67, Try.ntmps67
 go_wp2_with fail
 go_region_law_o (refine step_append_room rfl (.tmp 22) (.tmp 25) 24 rfl 28 i0 3 hu24 hi0 hz1 g 0 i cap (by simp [Act.eval, Act.put]) A (n - j) (cap - j) news (by simp [Act.eval, Act.put]) s1.out hsrc.out s2.out (by omega) s3.out ?_; rw [← hW.out])
 go_wp2
 all_goals first | (exfalso; have := HJ.out; omega) | skip
 go_ret
 have hw1 := X.out
 have hj := HJ.out
 have hl2 : news.length = (n - j) * 3 := s1.out
 have h2 := own_cut (own_setCells [.int .i64 0, .int .i64 0, .int .i64 0] W1 _ ((i + (n - j)) * 3) hw1 (by rw [hw1.1]; simp; omega)) (show n - 1 ≤ n by omega)
 refine ⟨by rw [show i + (n - j) = n - 1 by omega]; rfl, ?_, ?_⟩
 · have e : (List.take ((i + (n - j)) * 3) (xs.take (i * 3) ++ news ++ xs.drop (i * 3 + news.length)) ++ ([.int .i64 0, .int .i64 0, .int .i64 0] : List Value) ++ List.drop ((i + (n - j)) * 3 + 3) (xs.take (i * 3) ++ news ++ xs.drop (i * 3 + news.length))).take ((n - 1) * 3) = xs.take (i * 3) ++ xs.drop (j * 3) := by
    have e1 : List.take ((i + (n - j)) * 3) (xs.take (i * 3) ++ news ++ xs.drop (i * 3 + news.length)) = xs.take (i * 3) ++ news := by
     rw [List.take_append_of_le_length (by simp; omega), List.take_of_length_le (by simp; omega)]
    rw [e1, List.append_assoc, List.take_append_of_le_length (by simp; omega), List.take_of_length_le (by simp; omega), hN.out]
   rw [← e]
   exact h2
 · rw [hW.out]
   obtain ⟨⟨p1, p2, p3, p4⟩, p5⟩ := setCells_stay (g := g) [.int .i64 0, .int .i64 0, .int .i64 0] ((i + (n - j)) * 3) (w.drew.setCells g (0 + i * 3) news)
   obtain ⟨⟨r1, r2, r3, r4⟩, r5⟩ := setCells_stay (g := g) news (0 + i * 3) w.drew
   exact ⟨⟨p1.trans r1, p2.trans r2, p3.trans r3, Nat.le_trans r4 p4⟩, fun k hk => (p5 k hk).trans (r5 k hk)⟩
theorem del67.ok : DelOk Try.prog 67 28 3 :=
 ⟨⟨Try.f67, Try.func67, by kernel_rfl, by kernel_rfl⟩, fun b cap n i j xs w h h1 hj hi hn hm hc => del67.own_calls b cap n i j xs w h h1 hj hi hn hm hc⟩
theorem tab_ok : tab.ok Try.prog Cx = true := by kernel_rfl
theorem tab_fns : tab.F.map (fun x => Try.prog.funcs[x.1]?) = tab.F.map (fun x => some x.2) := by kernel_rfl
theorem tab_names : tab.F.all (fun x => !(x.2.name == "runtime.NumGoroutine")) = true := by kernel_rfl
theorem fits : Fits Try.prog Cx := Tab.fits tab_ok tab_fns tab_names (by kernel_rfl) (by
 intro g e sz h
 simp only [dels, List.mem_cons, List.not_mem_nil, or_false, Prod.mk.injEq] at h
 obtain ⟨rfl, rfl, rfl⟩ := h
 exact del67.ok)
theorem clone47 (Γ : Gr) : RetAt Try.prog Cx Γ 47 (clonePr (Cx.sig 47) 28 (.pair (.int .i64) (.pair (.int .i64) (.int .i64))) 5864062014805) :=
 clone_at fits (fn := Try.f47) (by kernel_rfl) (by kernel_rfl) (by kernel_rfl) (fun x => by kernel_rfl) (by kernel_rfl)
theorem prims_ok (Γ : Gr) : ∀ g p, Cx.prim g = some p → RetAt Try.prog Cx Γ g p := by
 intro g p h
 have h' : clonePrim tab.sig clones g = some p := h
 unfold clonePrim at h'
 split at h'
 case h_2 => cases h'
 rename_i e t lim hl
 have hm := alook_mem hl
 simp only [clones, List.mem_cons, List.not_mem_nil, or_false, Prod.mk.injEq] at hm
 obtain ⟨rfl, rfl, rfl, rfl⟩ := hm
 cases h'
 exact clone47 Γ
end Go.Proofs.Ytnpfeemkichniaa.Hi
