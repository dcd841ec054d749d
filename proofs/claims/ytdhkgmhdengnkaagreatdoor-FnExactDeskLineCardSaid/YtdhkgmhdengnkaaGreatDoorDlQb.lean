/- The plain law (part 2 of 2). -/
import Derived.Test.YtdhkgmhdengnkaaGreatDoorDlQa
namespace Go.Proofs.YtdhkgmhdengnkaaGreatDoor.Dl
open Go Go.Proofs.YtdhkgmhdengnkaaGreatDoorPi Go.RowKit
set_option linter.unusedVariables false
set_option linter.unusedSimpArgs false
set_option maxHeartbeats 1000000
theorem strict_unique : ∀ {a b : List Int}, a.Pairwise (· < ·) → b.Pairwise (· < ·) → (∀ x, x ∈ a ↔ x ∈ b) → a = b := by
  intro a
  induction a with
  | nil =>
    intro b _ _ h
    cases b with
    | nil => rfl
    | cons y b => exact absurd ((h y).2 (by simp)) (by simp)
  | cons x a ih =>
    intro b ha hb h
    cases b with
    | nil => exact absurd ((h x).1 (by simp)) (by simp)
    | cons y b =>
      obtain ⟨a1, a2⟩ := List.pairwise_cons.1 ha
      obtain ⟨b1, b2⟩ := List.pairwise_cons.1 hb
      have hxy : x = y := by
        rcases List.mem_cons.1 ((h x).1 (by simp)) with e | e
        · exact e
        · rcases List.mem_cons.1 ((h y).2 (by simp)) with e' | e'
          · exact e'.symm
          · have := b1 x e
            have := a1 y e'
            omega
      subst hxy
      rw [ih a2 b2 fun z => ⟨fun hz => by
        rcases List.mem_cons.1 ((h z).1 (List.mem_cons_of_mem _ hz)) with e | e
        · have := a1 z hz; omega
        · exact e, fun hz => by
        rcases List.mem_cons.1 ((h z).2 (List.mem_cons_of_mem _ hz)) with e | e
        · have := b1 z hz; omega
        · exact e⟩]
theorem compactL_mem : ∀ (l : List Int) (x : Int), x ∈ compactL l ↔ x ∈ l
  | [], x => by unfold compactL; exact Iff.rfl
  | [a], x => by unfold compactL; exact Iff.rfl
  | a :: b :: l, x => by
    have h := compactL_mem (b :: l) x
    unfold compactL
    by_cases e : a = b
    · rw [if_pos e, h, e]; simp
    · rw [if_neg e, List.mem_cons, h, List.mem_cons (a := x) (b := a)]
theorem compactL_srt : ∀ (l : List Int), l.Pairwise (· ≤ ·) → (compactL l).Pairwise (· < ·)
  | [], _ => by unfold compactL; exact List.Pairwise.nil
  | [a], _ => by unfold compactL; simp
  | a :: b :: l, h => by
    obtain ⟨h1, h2⟩ := List.pairwise_cons.1 h
    have ih := compactL_srt (b :: l) h2
    unfold compactL
    by_cases e : a = b
    · rw [if_pos e]; exact ih
    · rw [if_neg e]
      refine List.pairwise_cons.2 ⟨fun y hy => ?_, ih⟩
      have hy := (compactL_mem _ _).1 hy
      have hab := h1 b (by simp)
      rcases List.mem_cons.1 hy with e' | hy
      · subst e'; omega
      · have := (List.pairwise_cons.1 h2).1 y hy
        omega
theorem sortL_mem (l : List Int) (x : Int) : x ∈ sortL l ↔ x ∈ l := (List.mergeSort_perm l _).mem_iff
theorem sortL_len (l : List Int) : (sortL l).length = l.length := (List.mergeSort_perm l _).length_eq
theorem sortL_srt (l : List Int) : (sortL l).Pairwise (· ≤ ·) := by
  have h := List.pairwise_mergeSort (le := fun x y : Int => decide (x ≤ y)) (fun a b c h1 h2 => decide_eq_true (by have := of_decide_eq_true h1; have := of_decide_eq_true h2; omega)) (fun a b => by
    rcases Int.le_total a b with h | h
    · rw [decide_eq_true h]; rfl
    · rw [decide_eq_true h, Bool.or_true]) l
  exact h.imp fun h => of_decide_eq_true h
theorem spec_l1Put_eq {s : List Int} (x : Int) (hl : s.length ≤ 1000) (hs : s.Pairwise (· < ·)) : ∃ r : List Int, Ev (fun k => qhvz.f k s x) r ∧ r.Pairwise (· < ·) ∧ (∀ y, y ∈ r ↔ y ∈ s ∨ y = x) ∧ r.length ≤ s.length + 1 := by
  have srt : ∀ {i j : Nat}, i < j → j < s.length → s.getD i 0 < s.getD j 0 := fun {i j} hij hj => by
    have := List.pairwise_iff_getElem.1 hs i j (by omega) hj hij
    rw [List.getD_eq_getElem?_getD, List.getD_eq_getElem?_getD, List.getElem?_eq_getElem (show i < s.length by omega), List.getElem?_eq_getElem hj]
    exact this
  have put : ∀ i, i ≤ s.length → (∀ j, j < i → s.getD j 0 < x) → (∀ j, i ≤ j → j < s.length → x < s.getD j 0) → (s.take i ++ [x] ++ s.drop i).Pairwise (· < ·) ∧ (∀ y, y ∈ s.take i ++ [x] ++ s.drop i ↔ y ∈ s ∨ y = x) ∧ (s.take i ++ [x] ++ s.drop i).length ≤ s.length + 1 := by
    intro i hi h1 h2
    have ht := List.Pairwise.sublist (List.take_sublist i s) hs
    have hd := List.Pairwise.sublist (List.drop_sublist i s) hs
    refine ⟨List.pairwise_append.2 ⟨List.pairwise_append.2 ⟨ht, by simp, fun a ha b hb => ?_⟩, hd, fun a ha b hb => ?_⟩, fun y => ?_, by simp; omega⟩
    · obtain ⟨j, j1, j2, rfl⟩ := mem_take_at (z := 0) ha
      rw [List.mem_singleton.1 hb]
      exact h1 j j1
    · obtain ⟨j, j1, j2, rfl⟩ := mem_drop_at (z := 0) hb
      rcases List.mem_append.1 ha with ha | ha
      · obtain ⟨j', j1', j2', rfl⟩ := mem_take_at (z := 0) ha
        exact srt (by omega) j2
      · rw [List.mem_singleton.1 ha]
        exact h2 j j1 j2
    · have e : y ∈ s ↔ y ∈ s.take i ∨ y ∈ s.drop i := by rw [← List.mem_append, List.take_append_drop]
      simp only [List.mem_append, List.mem_singleton, e]
      constructor
      · rintro ((h | h) | h)
        · exact .inl (.inl h)
        · exact .inr h
        · exact .inl (.inr h)
      · rintro ((h | h) | h)
        · exact .inl (.inl h)
        · exact .inr h
        · exact .inl (.inr h)
  have key : ∀ (d i : Nat), i + d = s.length → (∀ j, j < i → s.getD j 0 < x) → ∃ r : List Int, Ev (fun k => qhvz.l0 k s x (i : Int)) r ∧ r.Pairwise (· < ·) ∧ (∀ y, y ∈ r ↔ y ∈ s ∨ y = x) ∧ r.length ≤ s.length + 1 := by
    intro d
    induction d with
    | zero =>
      intro i hi h
      refine ⟨_, qhvz.v0 ?_, put i (by omega) h (fun j h1 h2 => by omega)⟩
      simp (disch := omega) only [S, List.nil_append, List.length_append, List.length_cons, List.length_nil, List.length_take, List.length_drop]
      exact Ev.now _
    | succ d ih =>
      intro i hi h
      by_cases c : s.getD i 0 < x
      · obtain ⟨r, r1, r2⟩ := ih (i + 1) (by omega) (fun j hj => by
          rcases Nat.lt_or_ge j i with h' | h'
          · exact h j h'
          · rw [show j = i by omega]; exact c)
        refine ⟨r, qhvz.v0 ?_, r2⟩
        simp (disch := omega) only [S]
        exact r1
      · by_cases e : s.getD i 0 = x
        · refine ⟨s, qhvz.v0 ?_, hs, fun y => ⟨.inl, fun h => h.elim id fun h => by rw [h, ← e]; exact getD_mem (by omega)⟩, by omega⟩
          simp (disch := omega) only [S]
          exact Ev.now _
        · refine ⟨_, qhvz.v0 ?_, put i (by omega) h (fun j h1 h2 => by
            rcases Nat.lt_or_ge i j with h' | h'
            · have := srt h' h2; omega
            · rw [show j = i by omega]; omega)⟩
          simp (disch := omega) only [S, List.nil_append, List.length_append, List.length_cons, List.length_nil, List.length_take, List.length_drop]
          exact Ev.now _
  obtain ⟨r, r1, r2⟩ := key s.length 0 (by omega) (fun j h => by omega)
  exact ⟨r, qhvz.v r1, r2⟩
theorem smul {a b A B : Int} (ha : -A ≤ a ∧ a ≤ A) (hb : 0 ≤ b ∧ b ≤ B) : -(A * B) ≤ a * b ∧ a * b ≤ A * B := by
  have hA : 0 ≤ A := by omega
  have p1 := Int.mul_le_mul_of_nonneg_right ha.1 hb.1
  have p2 := Int.mul_le_mul_of_nonneg_right ha.2 hb.1
  have p3 := Int.mul_le_mul_of_nonneg_left hb.2 hA
  rw [Int.neg_mul] at p1
  omega
theorem RingPlaces_same {n : Int} (hn : 1 ≤ n ∧ n ≤ 1000) {w v : Wk} (hw : wOk w = true) (hv : wOk v = true) : ∃ r : List (List Int) × Bool, Ev (fun k => qdmz.f k n w.1 w.2 v.1 v.2) r ∧ Ev (fun k => qdkz.f k n w.1 w.2 v.1 v.2) r ∧ rows2 r.1 ∧ r.1.length ≤ 1000 ∧ (r.2 = true → 0 < r.1.length) ∧ (r.2 = false → r.1 = []) := by
  by_cases hs : w.2 = v.2
  · refine ⟨([], false), qdmz.v ?_, qdkz.v ?_, fun r hr => by simp at hr, by simp, by simp, fun _ => rfl⟩
    · have hne : (w.2 == v.2) = true := beq_iff_eq.2 hs
      simp only [impl_isRing_eq hn, impl_IsWalker_eq, S, hw, hv, hne]
      exact Ev.now _
    · have hne : (w.2 == v.2) = true := beq_iff_eq.2 hs
      simp only [spec_meRing_eq hn hw hv, S, hne]
      exact Ev.now _
  · obtain ⟨b1, b2, b3⟩ := ahead_bd hn hw hv
    have hw' := wOk_iff.1 hw
    obtain ⟨m, hm⟩ : ∃ m : Nat, (ahead n w v).2 = (m : Int) := ⟨(ahead n w v).2.toNat, by omega⟩
    have hm0 : 0 < m := by
      rcases Nat.eq_zero_or_pos m with h | h
      · subst h; exact absurd (b3.1 hm) hs
      · exact h
    have hB := mulb (a := n) (b := (m : Int)) (A := 1000) (B := 200) (by omega) (by omega) (by omega) (by omega)
    have hB1 : 0 < n * (m : Int) := Int.mul_pos (by omega) (by omega)
    -- the numbers
    obtain ⟨X, hX⟩ : ∃ X : Nat → Int, ∀ i, X i = W (W (w.1 * (m : Int)) + W (w.2 * W ((ahead n w v).1 + W ((i : Int) * n)))) := ⟨_, fun _ => rfl⟩
    have hXb : ∀ i, i < 200 → -4611686018427387904 ≤ X i ∧ X i ≤ 4611686018427387904 := by
      intro i hi
      have q1 := smul (a := w.1) (b := (m : Int)) (A := 1000) (B := 200) (by omega) (by omega)
      have q2 := mulb (a := (i : Int)) (b := n) (A := 200) (B := 1000) (by omega) (by omega) (by omega) (by omega)
      have q3 := smul (a := w.2) (b := (ahead n w v).1 + (i : Int) * n) (A := 100) (B := 201000) (by omega) (by omega)
      rw [hX, w64 (x := (i : Int) * n) (by omega) (by omega), w64 (x := (ahead n w v).1 + (i : Int) * n) (by omega) (by omega), w64 (x := w.2 * _) (by omega) (by omega), w64 (x := w.1 * _) (by omega) (by omega), w64 (by omega) (by omega)]
      omega
    have hNb : ∀ i, 0 ≤ X i % (n * (m : Int)) ∧ X i % (n * (m : Int)) < 200001 := fun i => ⟨Int.emod_nonneg _ (by omega), by have := Int.emod_lt_of_pos (X i) hB1; omega⟩
    have wB : W (n * (m : Int)) = n * (m : Int) := w64 (by omega) (by omega)
    -- the rows of a list of numbers
    have rowsOf : ∀ L : List Int, (∀ x ∈ L, 0 ≤ x ∧ x < 200001) → L.length ≤ 1000 → ∀ (e i : Nat), i + e = L.length → ∀ acc : List (List Int), acc.length = i → rows2 acc →
        ∃ R : List (List Int), Ev (fun k => qdjz.l1 k (m : Int) (L.length : Int) (i : Int) acc L) R ∧ Ev (fun k => qdkz.l1 k (m : Int) L (L.length : Int) (i : Int) acc) (R, true) ∧ rows2 R ∧ R.length = L.length := by
      intro L hL hl e
      induction e with
      | zero =>
        intro i hi acc ha hr
        refine ⟨acc, qdjz.v1 ?_, qdkz.v1 ?_, hr, by omega⟩ <;> simp (disch := omega) only [S] <;> exact Ev.now _
      | succ e ih =>
        intro i hi acc ha hr
        have hx := hL _ (getD_mem (z := 0) (show i < L.length by omega))
        have i1 : i64 (L.getD i 0) := by unfold i64; omega
        have i2 : i64 (m : Int) := by unfold i64; omega
        obtain ⟨g1, g2⟩ := low_i64 i1 i2
        obtain ⟨R, r1, r2, r3⟩ := ih (i + 1) (by omega) (acc ++ [[(low (L.getD i 0) (m : Int)).1, (low (L.getD i 0) (m : Int)).2]]) (by simp; omega) (rows2_snoc hr g1 g2)
        refine ⟨R, qdjz.v1 ?_, qdkz.v1 ?_, r3⟩
        · simp (disch := omega) only [S]
          exact Ev.bind (impl_lowest_eq i1 i2 (by omega)) r1
        · simp (disch := omega) only [S]
          exact Ev.bind (spec_meLow_eq i1 i2 (by omega)) r2
    have main : ∀ (e i : Nat), i + e = m → ∀ (acc : List Int) (s : List Int), acc.length = i → s.length ≤ i → s.Pairwise (· < ·) → (∀ y, y ∈ s ↔ y ∈ acc) → (∀ x ∈ acc, 0 ≤ x ∧ x < 200001) →
        ∃ R : List (List Int), Ev (fun k => qdjz.l0 k n (ahead n w v).1 (m : Int) (m : Int) (i : Int) w.1 w.2 acc) R ∧ Ev (fun k => qdkz.l0 k n (ahead n w v).1 (m : Int) s (i : Int) w.1 w.2) (R, true) ∧ rows2 R ∧ (0 < R.length ∧ R.length ≤ 1000) := by
      intro e
      induction e with
      | zero =>
        intro i hi acc s ha hs1 hs2 hs3 hb
        have es : compactL (sortL acc) = s := strict_unique (compactL_srt _ (sortL_srt _)) hs2 fun x => by rw [compactL_mem, sortL_mem, hs3]
        have sl := sortL_len acc
        have s0 : 0 < s.length := by
          have := (hs3 _).2 (getD_mem (z := 0) (show 0 < acc.length by omega))
          exact List.length_pos_of_mem this
        obtain ⟨R, r1, r2, r3, r4⟩ := rowsOf s (fun x hx => hb x ((hs3 x).1 hx)) (by omega) s.length 0 (by omega) [] rfl (fun r hr => by simp at hr)
        refine ⟨R, qdjz.v0 ?_, qdkz.v0 ?_, r3, by omega⟩
        · simp (disch := omega) only [S, sl, es]
          exact r1
        · simp (disch := omega) only [S]
          exact r2
      | succ e ih =>
        intro i hi acc s ha hs1 hs2 hs3 hb
        obtain ⟨r, r1, r2, r3, r4⟩ := spec_l1Put_eq (X i % (n * (m : Int))) (by omega) hs2
        obtain ⟨R, q1, q2, q3⟩ := ih (i + 1) (by omega) (acc ++ [X i % (n * (m : Int))]) r (by simp; omega) (by omega) r2 (fun y => by rw [r3, hs3, List.mem_append, List.mem_singleton]) (fun x hx => by
          rcases List.mem_append.1 hx with h | h
          · exact hb x h
          · rw [List.mem_singleton.1 h]; exact hNb i)
        have hx := hXb i (by omega)
        have wi : W ((i : Int) + 1) = ((i + 1 : Nat) : Int) := by rw [w64 (by omega) (by omega)]; omega
        have lt1 : iLt (i : Int) (m : Int) = true := decide_eq_true (by omega)
        refine ⟨R, qdjz.v0 ?_, qdkz.v0 ?_, q3⟩
        · simp only [lt1, if_true, ← hX, wB, impl_around_eq hB1 hx (by omega), Option.bind_some, wi]
          simp (disch := omega) only [S]
          exact q1
        · simp only [lt1, if_true, ← hX, wB, spec_meMod_eq hB1 (show n * (m : Int) ≤ 4611686018427387904 by omega), Option.bind_some, wi]
          exact Ev.bind r1 q2
    obtain ⟨R, r1, r2, r3, r4⟩ := main m 0 (by omega) [] [] rfl (by simp) List.Pairwise.nil (fun y => Iff.rfl) (fun x hx => by simp at hx)
    refine ⟨(R, true), qdmz.v ?_, qdkz.v ?_, r3, r4.2, fun _ => r4.1, fun h => by cases h⟩
    · have hne : (w.2 == v.2) = false := beq_eq_false_iff_ne.2 hs
      simp only [impl_isRing_eq hn, impl_IsWalker_eq, S, hw, hv, hne]
      refine Ev.bind (qdjz.v ?_) (Ev.now _)
      simp only [impl_ringGap_eq hn hw hv, S, hm]
      exact r1
    · have hne : (w.2 == v.2) = false := beq_eq_false_iff_ne.2 hs
      simp only [spec_meRing_eq hn hw hv, spec_meAhead_eq hn hw hv, S, hne, hm]
      exact r2
def thereFrom (t : Int) : Nat → List Wk → List Int
  | _, [] => []
  | i, v :: l => if v.1 ≤ t ∧ t ≤ v.1 + v.2 then (i : Int) :: thereFrom t (i + 1) l else thereFrom t (i + 1) l
theorem thereFrom_len (t : Int) (l : List Wk) : ∀ i, (thereFrom t i l).length ≤ l.length := by
  induction l with
  | nil => intro i; simp [thereFrom]
  | cons v l ih =>
    intro i
    simp only [thereFrom]
    have := ih (i + 1)
    split <;> simp <;> omega
def ve (v : Wk) : Int := v.1 + v.2
def Gd (l : List Wk) : Int → List Int → Prop
  | last, [] => ∀ v ∈ l, v.1 ≤ last
  | last, t :: r => (∃ v ∈ l, last < v.1 ∧ ve v = t) ∧ (∀ v ∈ l, last < v.1 → t ≤ ve v) ∧ Gd l t r
def runL : Int → List Wk → List Int
  | _, [] => []
  | last, v :: s => if last < v.1 then ve v :: runL (ve v) s else runL last s
theorem runL_len (s : List Wk) : ∀ last, (runL last s).length ≤ s.length := by
  induction s with
  | nil => intro last; simp [runL]
  | cons v s ih =>
    intro last
    rw [runL]
    split
    · have := ih (ve v); simp; omega
    · have := ih last; simp; omega
theorem gd_cons {v : Wk} {s : List Wk} (hs : ∀ u ∈ s, u.1 ≤ ve u) (r : List Int) : ∀ last, v.1 ≤ last → Gd s last r → Gd (v :: s) last r := by
  induction r with
  | nil =>
    intro last hv h u hu
    rcases List.mem_cons.1 hu with rfl | hu
    · exact hv
    · exact h u hu
  | cons t r ih =>
    intro last hv h
    obtain ⟨⟨u, hu, hl, he⟩, h2, h3⟩ := h
    refine ⟨⟨u, List.mem_cons_of_mem _ hu, hl, he⟩, ?_, ih t ?_ h3⟩
    · intro x hx hlx
      rcases List.mem_cons.1 hx with rfl | hx
      · omega
      · exact h2 x hx hlx
    · have := hs u hu
      omega
theorem gd_run (s : List Wk) : (∀ u ∈ s, u.1 ≤ ve u) → s.Pairwise (fun a b => ve a ≤ ve b) → ∀ last, Gd s last (runL last s) := by
  induction s with
  | nil => intro _ _ last u hu; simp at hu
  | cons v s ih =>
    intro hs hp last
    rw [List.pairwise_cons] at hp
    have hs' : ∀ u ∈ s, u.1 ≤ ve u := fun u hu => hs u (List.mem_cons_of_mem _ hu)
    rw [runL]
    by_cases h : last < v.1
    · rw [if_pos h]
      refine ⟨⟨v, List.mem_cons_self, h, rfl⟩, ?_, gd_cons hs' _ _ (hs v List.mem_cons_self) (ih hs' hp.2 _)⟩
      intro u hu _
      rcases List.mem_cons.1 hu with rfl | hu
      · exact Int.le_refl _
      · exact hp.1 u hu
    · rw [if_neg h]
      exact gd_cons hs' _ _ (by omega) (ih hs' hp.2 _)
theorem gd_congr {l l' : List Wk} (h : ∀ v, v ∈ l ↔ v ∈ l') (r : List Int) : ∀ last, Gd l last r → Gd l' last r := by
  induction r with
  | nil => intro last hg v hv; exact hg v ((h v).2 hv)
  | cons t r ih =>
    rintro last ⟨⟨v, hv, hl, he⟩, h2, h3⟩
    exact ⟨⟨v, (h v).1 hv, hl, he⟩, fun u hu => h2 u ((h u).2 hu), ih t h3⟩
def nextGo (last : Int) : List Wk → Int → Int
  | [], c => c
  | v :: l, c => nextGo last l (if v.1 ≤ last then c else if c < 0 then v.1 + v.2 else if v.1 + v.2 < c then v.1 + v.2 else c)
theorem nextGo_none {last : Int} (l : List Wk) : (∀ v ∈ l, v.1 ≤ last) → ∀ c, nextGo last l c = c := by
  induction l with
  | nil => intro _ c; rfl
  | cons v l ih =>
    intro h c
    rw [nextGo, if_pos (h v List.mem_cons_self)]
    exact ih (fun u hu => h u (List.mem_cons_of_mem _ hu)) c
theorem nextGo_some {last t : Int} (ht : 0 ≤ t) (l : List Wk) : (∀ v ∈ l, last < v.1 → t ≤ ve v) → ∀ c, (c = t ∨ (∃ v ∈ l, last < v.1 ∧ ve v = t) ∧ (c < 0 ∨ t ≤ c)) → nextGo last l c = t := by
  induction l with
  | nil =>
    intro _ c hc
    rcases hc with rfl | ⟨⟨v, hv, _⟩, _⟩
    · rfl
    · simp at hv
  | cons v l ih =>
    intro h c hc
    have h' : ∀ u ∈ l, last < u.1 → t ≤ ve u := fun u hu => h u (List.mem_cons_of_mem _ hu)
    have hv := h v List.mem_cons_self
    have hve : ve v = v.1 + v.2 := rfl
    rw [nextGo]
    refine ih h' _ ?_
    by_cases h0 : v.1 ≤ last
    · rw [if_pos h0]
      rcases hc with hc | ⟨⟨u, hu, hl, he⟩, hc⟩
      · exact .inl hc
      · rcases List.mem_cons.1 hu with rfl | hu
        · omega
        · exact .inr ⟨⟨u, hu, hl, he⟩, hc⟩
    · have hv' := hv (by omega)
      rw [if_neg h0]
      rcases hc with hc | ⟨⟨u, hu, hl, he⟩, hc⟩
      · left
        rw [if_neg (by omega), if_neg (by omega)]
        exact hc
      · rcases List.mem_cons.1 hu with rfl | hu
        · left
          split
          · exact he
          · split
            · exact he
            · omega
        · right
          refine ⟨⟨u, hu, hl, he⟩, .inr ?_⟩
          split
          · omega
          · split
            · omega
            · omega
theorem mem_there (t : Int) (l : List Wk) : ∀ (i : Nat) (j : Int), j ∈ thereFrom t i l ↔ ∃ q : Nat, q < l.length ∧ j = ((i + q : Nat) : Int) ∧ (l.getD q (0, 0)).1 ≤ t ∧ t ≤ ve (l.getD q (0, 0)) := by
  induction l with
  | nil => intro i j; simp [thereFrom]
  | cons v l ih =>
    intro i j
    have key : j ∈ thereFrom t (i + 1) l ↔ ∃ q : Nat, q < l.length ∧ j = ((i + (q + 1) : Nat) : Int) ∧ (l.getD q (0, 0)).1 ≤ t ∧ t ≤ ve (l.getD q (0, 0)) := by
      rw [ih (i + 1) j]
      constructor
      · rintro ⟨q, h1, h2, h3⟩
        exact ⟨q, h1, by omega, h3⟩
      · rintro ⟨q, h1, h2, h3⟩
        exact ⟨q, h1, by omega, h3⟩
    rw [thereFrom]
    constructor
    · intro h
      split at h
      · rename_i hc
        rcases List.mem_cons.1 h with rfl | h
        · exact ⟨0, by simp, by simp, hc.1, hc.2⟩
        · obtain ⟨q, h1, h2, h3⟩ := key.1 h
          exact ⟨q + 1, by simp; omega, h2, h3⟩
      · obtain ⟨q, h1, h2, h3⟩ := key.1 h
        exact ⟨q + 1, by simp; omega, h2, h3⟩
    · rintro ⟨q, h1, h2, h3, h4⟩
      cases q with
      | zero =>
        rw [if_pos ⟨h3, h4⟩]
        rw [h2]; simp
      | succ q =>
        have : j ∈ thereFrom t (i + 1) l := key.2 ⟨q, by simpa using h1, h2, h3, h4⟩
        split
        · exact List.mem_cons_of_mem _ this
        · exact this
def servedOf (l : List Wk) (last : Int) : List Bool := l.map fun v => decide (v.1 ≤ last)
theorem served_len (l : List Wk) (last : Int) : (servedOf l last).length = l.length := by simp [servedOf]
theorem served_at {l : List Wk} {last : Int} {i : Nat} (h : i < l.length) : (servedOf l last).getD i false = decide ((l.getD i (0, 0)).1 ≤ last) := by
  unfold servedOf
  rw [List.getD_eq_getElem?_getD, List.getD_eq_getElem?_getD, List.getElem?_map, List.getElem?_eq_getElem h]
  rfl
def markAll : List Bool → List Int → List Bool
  | s, [] => s
  | s, j :: w => markAll (s.set j.toNat true) w
theorem markAll_len (w : List Int) : ∀ s, (markAll s w).length = s.length := by
  induction w with
  | nil => intro s; rfl
  | cons j w ih => intro s; rw [markAll, ih, List.length_set]
theorem markAll_at (w : List Int) : ∀ (s : List Bool) (q : Nat), q < s.length → (∀ j ∈ w, 0 ≤ j) → ((markAll s w).getD q false = true ↔ s.getD q false = true ∨ (q : Int) ∈ w) := by
  induction w with
  | nil => intro s q hq _; simp [markAll]
  | cons j w ih =>
    intro s q hq hw
    have hj := hw j List.mem_cons_self
    rw [markAll, ih _ q (by rw [List.length_set]; exact hq) (fun x hx => hw x (List.mem_cons_of_mem _ hx)), List.mem_cons]
    by_cases h : j.toNat = q
    · have e : (s.set j.toNat true).getD q false = true := by
        rw [List.getD_eq_getElem?_getD, h, List.getElem?_set_self hq]; rfl
      have e2 : (q : Int) = j := by omega
      rw [e]
      exact ⟨fun _ => .inr (.inl e2), fun _ => .inl rfl⟩
    · have e : (s.set j.toNat true).getD q false = s.getD q false := by
        rw [List.getD_eq_getElem?_getD, List.getElem?_set_ne h, ← List.getD_eq_getElem?_getD]
      have e2 : ¬ (q : Int) = j := by omega
      rw [e]
      exact ⟨fun h => h.elim .inl (fun h => .inr (.inr h)), fun h => h.elim .inl (fun h => h.elim (fun h => absurd h e2) .inr)⟩
theorem mark_served {l : List Wk} {last t : Int} (h1 : ∀ v ∈ l, last < v.1 → t ≤ ve v) (h2 : last ≤ t) : markAll (servedOf l last) (thereFrom t 0 l) = servedOf l t := by
  have hl : (markAll (servedOf l last) (thereFrom t 0 l)).length = (servedOf l t).length := by rw [markAll_len, served_len, served_len]
  refine List.ext_getElem hl fun q hq1 hq2 => ?_
  have hq : q < l.length := by rw [served_len] at hq2; exact hq2
  have e1 : (markAll (servedOf l last) (thereFrom t 0 l))[q] = (markAll (servedOf l last) (thereFrom t 0 l)).getD q false := by
    rw [List.getD_eq_getElem?_getD, List.getElem?_eq_getElem hq1]; rfl
  have e2 : (servedOf l t)[q] = (servedOf l t).getD q false := by
    rw [List.getD_eq_getElem?_getD, List.getElem?_eq_getElem hq2]; rfl
  have hm : l.getD q (0, 0) ∈ l := by
    rw [List.getD_eq_getElem?_getD, List.getElem?_eq_getElem hq]
    exact List.getElem_mem hq
  have hg := h1 _ hm
  rw [e1, e2]
  have key := markAll_at (thereFrom t 0 l) (servedOf l last) q (by rw [served_len]; exact hq) (fun j hj => by
    obtain ⟨p, _, rfl, _⟩ := (mem_there t l 0 j).1 hj
    omega)
  rw [served_at hq, decide_eq_true_eq, mem_there] at key
  rw [served_at hq, Bool.eq_iff_iff, key, decide_eq_true_eq]
  constructor
  · rintro (h | ⟨p, hp, hqp, h3, _⟩)
    · omega
    · have : p = q := by omega
      subst this
      exact h3
  · intro h
    by_cases h3 : (l.getD q (0, 0)).1 ≤ last
    · exact .inl h3
    · exact .inr ⟨q, hq, by omega, h, hg (by omega)⟩
theorem vis_at {l : List Wk} (h : listOk 6 vOk l = true) {i : Nat} (hi : i < l.length) : (0 ≤ (l.getD i (0, 0)).1 ∧ (l.getD i (0, 0)).1 ≤ 200) ∧ 0 ≤ (l.getD i (0, 0)).2 ∧ (l.getD i (0, 0)).2 ≤ 200 := vOk_iff.1 ((listOk_iff.1 h).2 _ (getD_mem hi))
def ltE (v u : Wk) : Bool := decide (ve v < ve u)
theorem posAt_srt (x : Wk) (acc : List Wk) (hs : acc.Pairwise fun a b => ve a ≤ ve b) : ∀ n, n ≤ acc.length → (∀ i, n ≤ i → i < acc.length → ve x ≤ ve (acc.getD i (0, 0))) → (∀ i, posAt ltE (0, 0) x acc n ≤ i → i < acc.length → ve x ≤ ve (acc.getD i (0, 0))) ∧ ∀ i, i < posAt ltE (0, 0) x acc n → ve (acc.getD i (0, 0)) ≤ ve x := by
  intro n
  induction n with
  | zero => intro _ h; exact ⟨h, fun i hi => absurd hi (by unfold posAt; omega)⟩
  | succ n ih =>
    intro hn h
    unfold posAt
    cases hc : ltE x (acc.getD n (0, 0)) with
    | true =>
      rw [if_pos rfl]
      refine ih (by omega) fun i h1 h2 => ?_
      rcases Nat.lt_or_ge n i with h3 | h3
      · exact h i (by omega) h2
      · have : i = n := by omega
        subst this
        have := of_decide_eq_true hc
        omega
    | false =>
      rw [if_neg (by simp)]
      refine ⟨h, fun i hi => ?_⟩
      have hx := of_decide_eq_false hc
      rcases Nat.lt_or_ge i n with h3 | h3
      · have := List.pairwise_iff_getElem.1 hs i n (by omega) (by omega) h3
        have e1 : acc.getD i (0, 0) = acc[i]'(by omega) := by rw [List.getD_eq_getElem?_getD, List.getElem?_eq_getElem (show i < acc.length by omega)]; rfl
        have e2 : acc.getD n (0, 0) = acc[n]'(by omega) := by rw [List.getD_eq_getElem?_getD, List.getElem?_eq_getElem (show n < acc.length by omega)]; rfl
        rw [e1]; rw [e2] at hx; omega
      · have : i = n := by omega
        subst this
        omega
theorem isortE : ∀ (n : Nat) (l : List Wk), l.length = n → (isort ltE (0, 0) l).Pairwise fun a b => ve a ≤ ve b := by
  intro n
  induction n with
  | zero => intro l h; rw [List.length_eq_zero_iff.1 h]; exact List.Pairwise.nil
  | succ n ih =>
    intro l h
    have h0 : l ≠ [] := by intro e; subst e; simp at h
    rw [← List.dropLast_concat_getLast h0, isort_snoc]
    have hs := ih l.dropLast (by simp [h])
    obtain ⟨k1, k2⟩ := posAt_srt (l.getLast h0) _ hs _ (Nat.le_refl _) (fun i h1 h2 => by omega)
    unfold ins insAt
    have hp := posAt_le ltE (0, 0) (l.getLast h0) (isort ltE (0, 0) l.dropLast) (isort ltE (0, 0) l.dropLast).length
    generalize isort ltE (0, 0) l.dropLast = acc at *
    generalize posAt ltE (0, 0) (l.getLast h0) acc acc.length = p at *
    refine List.pairwise_append.2 ⟨List.Pairwise.sublist (List.take_sublist _ _) hs, List.pairwise_cons.2 ⟨fun y hy => ?_, List.Pairwise.sublist (List.drop_sublist _ _) hs⟩, fun a ha b hb => ?_⟩
    · obtain ⟨i, i1, i2, rfl⟩ := mem_drop_at (z := (0, 0)) hy
      exact k1 i i1 i2
    · obtain ⟨i, i1, i2, rfl⟩ := mem_take_at (z := (0, 0)) ha
      rcases List.mem_cons.1 hb with rfl | hb
      · exact k2 i i1
      · obtain ⟨j, j1, j2, rfl⟩ := mem_drop_at (z := (0, 0)) hb
        have := k1 j j1 j2
        have := k2 i i1
        omega
theorem cmpE : CmpOk (fun _ (x y : Wk) => qboz.f x.1 x.2 y.1 y.2) ltE (fun v => vOk v = true) := by
  intro x y hx hy
  have hx := vOk_iff.1 hx
  have hy := vOk_iff.1 hy
  obtain ⟨c, e, l, _⟩ := cmp_Compare_eq (x.1 + x.2) (y.1 + y.2)
  refine ⟨c, ev_of ?_, ?_⟩
  · unfold qboz.f
    rw [w64 (x := x.1 + x.2) (by omega) (by omega), w64 (x := y.1 + y.2) (by omega) (by omega), e]
    rfl
  · rw [l]; rfl
theorem bits_ex {n : Nat} (h : n ≤ 6) : ∃ t, qeyz.f (IntKind.wrap .u64 (n : Int)) = some t := by
  have e : IntKind.wrap .u64 (n : Int) = (n : Int) := by
    simp [IntKind.wrap, IntKind.bits, IntKind.signed]
    omega
  have e2 : IntKind.wrap .u8 (n : Int) = (n : Int) := by
    simp [IntKind.wrap, IntKind.bits, IntKind.signed]
    omega
  unfold qeyz.f qdlz.f
  rw [e, if_neg (show ¬ iGe (n : Int) 4294967296 = true by rw [show iGe (n : Int) 4294967296 = false from decide_eq_false (by omega)]; decide),
    if_neg (show ¬ iGe (n : Int) 65536 = true by rw [show iGe (n : Int) 65536 = false from decide_eq_false (by omega)]; decide),
    if_neg (show ¬ iGe (n : Int) 256 = true by rw [show iGe (n : Int) 256 = false from decide_eq_false (by omega)]; decide),
    S.1 (show 0 ≤ IntKind.wrap .u8 (n : Int) by omega), S.1 (show IntKind.wrap .u8 (n : Int) < 256 by omega)]
  exact ⟨_, rfl⟩
theorem SortFunc_eq {l : List Wk} (hv : listOk 6 vOk l = true) : Ev (fun k => qaiz.f k l) (isort ltE (0, 0) l) := by
  obtain ⟨h1, h2⟩ := listOk_iff.1 hv
  obtain ⟨t, ht⟩ := bits_ex h1.2
  refine qaiz.v ?_
  simp only [S, ht]
  refine Ev.bind (qaqz.v (qaqz.v0 ?_)) (Ev.now _)
  have c : iLe (W ((l.length : Int) - 0)) 12 = true := decide_eq_true (by rw [w64 (by omega) (by omega)]; omega)
  simp only [c, if_true]
  refine Ev.bind (v := isort ltE (0, 0) l) (qadz.v ?_) (Ev.now _)
  have h := ins_run cmpE (F0 := fun k a b i arr => qadz.l0 k a b i arr) (F1 := fun k a b i j arr => qadz.l1 k a b i j arr)
    qadz.v0 qadz.v1 [] l [] h2 (by simp; omega)
  simp only [List.length_nil, Nat.zero_add, List.nil_append, List.append_nil] at h
  rw [show W (0 + 1) = 1 by decide]
  exact h
theorem impl_FG_loop {T : List Wk} (hg : listOk 6 vOk T = true) (d : Nat) : ∀ (i : Nat) (acc : List Int) (last : Int), i + d = T.length → acc.length ≤ i →
    Ev (fun k => qbyz.l0 k last (T.length : Int) (i : Int) acc T) (acc ++ runL last (T.drop i), true) := by
  have hl := (listOk_iff.1 hg).1
  induction d with
  | zero =>
    intro i acc last hi ha
    rw [List.drop_eq_nil_of_le (by omega)]
    refine qbyz.v0 ?_
    simp (disch := omega) only [S]
    exact ev_now (by simp [runL])
  | succ d ih =>
    intro i acc last hi ha
    have hb := vis_at hg (show i < T.length by omega)
    rw [drop_cons (0, 0) (show i < T.length by omega), runL]
    refine qbyz.v0 ?_
    by_cases h : last < (T.getD i (0, 0)).1
    · simp (disch := omega) only [S, if_pos h]
      rw [show acc ++ ve (T.getD i (0, 0)) :: runL (ve (T.getD i (0, 0))) (T.drop (i + 1)) = acc ++ [ve (T.getD i (0, 0))] ++ runL (ve (T.getD i (0, 0))) (T.drop (i + 1)) by simp]
      exact ih (i + 1) _ _ (by omega) (by simp; omega)
    · simp (disch := omega) only [S, if_neg h]
      exact ih (i + 1) _ _ (by omega) (by omega)
theorem impl_FewestGuides_eq {l : List Wk} (hv : listOk 6 vOk l = true) : ∃ r, r.length ≤ 6 ∧ Gd l (-1) r ∧ (0 ≤ 0 ∧ ∀ x ∈ r, i64 x) ∧ Ev (fun k => qbyz.f k l) (r, true) := by
  obtain ⟨hl, h2⟩ := listOk_iff.1 hv
  have hm : ∀ v, v ∈ isort ltE (0, 0) l ↔ v ∈ l := fun v => (isort_perm _ _ _).mem_iff
  have hil := isort_len ltE (0, 0) l
  have hvT : listOk 6 vOk (isort ltE (0, 0) l) = true := listOk_iff.2 ⟨by omega, fun w hw => h2 w ((hm w).1 hw)⟩
  have hr := runL_len (isort ltE (0, 0) l) (-1)
  have hmem : ∀ (s : List Wk), (∀ v ∈ s, vOk v = true) → ∀ last, ∀ x ∈ runL last s, i64 x := by
    intro s
    induction s with
    | nil => intro _ last x hx; simp [runL] at hx
    | cons v s ih =>
      intro h last x hx
      unfold runL at hx
      split at hx
      · rcases List.mem_cons.1 hx with rfl | hx
        · have := vOk_iff.1 (h v (by simp))
          unfold i64 ve; omega
        · exact ih (fun u hu => h u (List.mem_cons_of_mem _ hu)) _ x hx
      · exact ih (fun u hu => h u (List.mem_cons_of_mem _ hu)) _ x hx
  refine ⟨runL (-1) (isort ltE (0, 0) l), by omega, ?_, ⟨Nat.le_refl _, hmem _ (fun v hv' => h2 v ((hm v).1 hv')) _⟩, ?_⟩
  · refine gd_congr hm _ _ (gd_run _ (fun u hu => ?_) (isortE _ l rfl) (-1))
    have := vOk_iff.1 (h2 u ((hm u).1 hu))
    unfold ve; omega
  · refine qbyz.v (Ev.bind (impl_AreVisits_eq l) ?_)
    unfold qbiz.f
    simp (disch := omega) only [hv, S]
    refine Ev.bind (SortFunc_eq hv) ?_
    have := impl_FG_loop hvT (isort ltE (0, 0) l).length 0 [] (-1) (by omega) (by simp)
    simpa using this
theorem spec_wiThere_eq {l : List Wk} (hv : listOk 6 vOk l = true) (t : Int) : Ev (fun k => qgbz.f k l t) (thereFrom t 0 l) := by
  have hl := (listOk_iff.1 hv).1
  have key : ∀ (d i : Nat) (acc : List Int), i + d = l.length → acc.length ≤ i → Ev (fun k => qgbz.l0 k t l (l.length : Int) (i : Int) acc) (acc ++ thereFrom t i (l.drop i)) := by
    intro d
    induction d with
    | zero =>
      intro i acc hi ha
      rw [List.drop_eq_nil_of_le (by omega)]
      refine qgbz.v0 ?_
      simp (disch := omega) only [S]
      exact ev_now (by simp [thereFrom])
    | succ d ih =>
      intro i acc hi ha
      have hb := vis_at hv (show i < l.length by omega)
      rw [drop_cons (0, 0) (show i < l.length by omega)]
      refine qgbz.v0 ?_
      simp (disch := omega) only [S, spec_l1In_eq, decide_eq_true_eq, thereFrom]
      by_cases h1 : (l.getD i (0, 0)).1 ≤ t ∧ t ≤ (l.getD i (0, 0)).1 + (l.getD i (0, 0)).2
      · have h := ih (i + 1) (acc ++ [(i : Int)]) (by omega) (by simp; omega)
        rw [List.append_assoc] at h
        simp only [if_pos h1]
        exact h
      · have h := ih (i + 1) acc (by omega) (by omega)
        simp only [if_neg h1]
        exact h
  exact qgbz.v (key l.length 0 [] (by omega) (by simp))
theorem spec_FG_l1 {l : List Wk} (hv : listOk 6 vOk l = true) {acc : List Int} {last : Int} {R : List Int × Bool} (ha : acc.length ≤ 1000) (d : Nat) : ∀ (i : Nat) (c : Int), i + d = l.length →
    Ev (fun k => if nextGo last (l.drop i) c < 0 then some (acc, true) else ((qgbz.f k l (nextGo last (l.drop i) c)).bind fun t => (qbxz.l2 k l t (t.length : Int) 0 (acc ++ [nextGo last (l.drop i) c]) (servedOf l last)))) R →
    Ev (fun k => qbxz.l1 k l c l (l.length : Int) (i : Int) acc (servedOf l last)) R := by
  have hl := (listOk_iff.1 hv).1
  induction d with
  | zero =>
    intro i c hi hR
    rw [List.drop_eq_nil_of_le (by omega)] at hR
    refine qbxz.v1 ?_
    rw [show nextGo last [] c = c from rfl] at hR
    by_cases hc : c < 0
    · simp only [if_pos hc] at hR
      simp (disch := omega) only [S]
      exact hR
    · simp only [if_neg hc] at hR
      simp (disch := omega) only [S]
      exact hR
  | succ d ih =>
    intro i c hi hR
    have hb := vis_at hv (show i < l.length by omega)
    have hsl := served_len l last
    rw [drop_cons (0, 0) (show i < l.length by omega), nextGo] at hR
    refine qbxz.v1 ?_
    have sa := served_at (l := l) (last := last) (show i < l.length by omega)
    by_cases h0 : (l.getD i (0, 0)).1 ≤ last
    · rw [decide_eq_true h0] at sa
      simp only [if_pos h0] at hR
      simp (disch := omega) only [S, sa]
      exact ih (i + 1) c (by omega) hR
    · rw [decide_eq_false h0] at sa
      simp only [if_neg h0] at hR
      by_cases h1 : c < 0
      · simp only [if_pos h1] at hR
        simp (disch := omega) only [S, sa]
        exact ih (i + 1) _ (by omega) hR
      · simp only [if_neg h1] at hR
        by_cases h2 : (l.getD i (0, 0)).1 + (l.getD i (0, 0)).2 < c
        · simp only [if_pos h2] at hR
          simp (disch := omega) only [S, sa]
          exact ih (i + 1) _ (by omega) hR
        · simp only [if_neg h2] at hR
          simp (disch := omega) only [S, sa]
          exact ih (i + 1) _ (by omega) hR
theorem spec_FG_l2 {l : List Wk} {acc : List Int} {R : List Int × Bool} {w : List Int} (hw : w.length ≤ 1000) (hj : ∀ j ∈ w, 0 ≤ j ∧ j < (l.length : Int)) (d : Nat) : ∀ (i : Nat) (s : List Bool), i + d = w.length → s.length = l.length →
    Ev (fun k => qbxz.l0 k l acc (markAll s (w.drop i))) R →
    Ev (fun k => qbxz.l2 k l w (w.length : Int) (i : Int) acc s) R := by
  induction d with
  | zero =>
    intro i s hi hs hR
    rw [List.drop_eq_nil_of_le (by omega)] at hR
    refine qbxz.v2 ?_
    simp (disch := omega) only [S]
    exact hR
  | succ d ih =>
    intro i s hi hs hR
    have hb := hj _ (getD_mem (z := 0) (show i < w.length by omega))
    rw [drop_cons 0 (show i < w.length by omega), markAll] at hR
    refine qbxz.v2 ?_
    simp (disch := omega) only [S]
    exact ih (i + 1) _ (by omega) (by rw [List.length_set]; exact hs) hR
theorem spec_FG_l0 {l : List Wk} (hv : listOk 6 vOk l = true) (r : List Int) : ∀ (last : Int) (acc : List Int), Gd l last r → acc.length + r.length ≤ 1000 →
    Ev (fun k => qbxz.l0 k l acc (servedOf l last)) (acc ++ r, true) := by
  obtain ⟨hl6, hmem⟩ := listOk_iff.1 hv
  induction r with
  | nil =>
    intro last acc hg ha
    simp only [List.length_nil] at ha
    refine qbxz.v0 ?_
    simp only [S]
    refine spec_FG_l1 hv (by omega) l.length 0 (-1) (by omega) ?_
    rw [List.drop_zero, nextGo_none l hg]
    simp only [if_pos (show (-1 : Int) < 0 by omega), List.append_nil]
    exact Ev.now _
  | cons t r ih =>
    rintro last acc ⟨⟨v, hvl, hl, he⟩, h2, h3⟩ ha
    have hgv := vOk_iff.1 (hmem _ hvl)
    have ht : 0 ≤ t ∧ last ≤ t := by unfold ve at he; omega
    rw [List.length_cons] at ha
    refine qbxz.v0 ?_
    simp only [S]
    refine spec_FG_l1 hv (by omega) l.length 0 (-1) (by omega) ?_
    rw [List.drop_zero, nextGo_some ht.1 l h2 (-1) (.inr ⟨⟨v, hvl, hl, he⟩, .inl (by omega)⟩)]
    simp only [if_neg (show ¬ t < 0 by omega)]
    refine Ev.bind (spec_wiThere_eq hv t) ?_
    have hlen := thereFrom_len t l 0
    refine spec_FG_l2 (by omega) (fun j hj => by
      obtain ⟨p, hp, rfl, _⟩ := (mem_there t l 0 j).1 hj
      omega) (thereFrom t 0 l).length 0 _ (by omega) (served_len _ _) ?_
    rw [List.drop_zero, mark_served h2 ht.2, show acc ++ t :: r = acc ++ [t] ++ r by simp]
    exact ih t _ h3 (by simp; omega)
theorem FewestGuides_same {l : List Wk} (hv : listOk 6 vOk l = true) : ∃ L : List Int, Ev (fun k => qbyz.f k l) (L, true) ∧ Ev (fun k => qbxz.f k l) (L, true) ∧ L.length ≤ 6 ∧ ∀ n ∈ L, i64 n := by
  obtain ⟨hl, hmem⟩ := listOk_iff.1 hv
  obtain ⟨r, h1, h2, h3, h4⟩ := impl_FewestGuides_eq hv
  refine ⟨r, h4, qbxz.v (Ev.bind (spec_wiGood_eq l) ?_), h1, h3.2⟩
  simp (disch := omega) only [hv, S]
  have e : List.replicate l.length false = servedOf l (-1) := by
    refine (List.eq_replicate_iff.2 ⟨served_len _ _, fun b hb => ?_⟩).symm
    obtain ⟨v, hvl, rfl⟩ := List.mem_map.1 hb
    have := vOk_iff.1 (hmem _ hvl)
    exact decide_eq_false (by omega)
  rw [e]
  exact spec_FG_l0 hv r (-1) [] h2 (by simp; omega)
def beqN : List Nat → List Nat → Bool
  | [], [] => true
  | a :: l, b :: m => (a % 256 == b % 256) && beqN l m
  | _, _ => false
theorem beqN_eq : ∀ a b : List Nat, beqN a b = decide (a.map UInt8.ofNat = b.map UInt8.ofNat)
  | [], [] => rfl
  | [], _ :: _ => rfl
  | _ :: _, [] => rfl
  | a :: l, b :: m => by
    have h : (UInt8.ofNat a = UInt8.ofNat b) ↔ a % 256 = b % 256 := by
      rw [← UInt8.toNat_inj, UInt8.toNat_ofNat', UInt8.toNat_ofNat']
    unfold beqN
    rw [beqN_eq l m, List.map_cons, List.map_cons, Bool.eq_iff_iff, Bool.and_eq_true, beq_iff_eq, decide_eq_true_eq, decide_eq_true_eq, List.cons.injEq, h]
theorem sqn (a b : List Nat) : seq (bs a) (bs b) = beqN a b := by rw [bs_bL, bs_bL, seq_bL, beqN_eq]
def table : List (List Nat × List Nat) := [([119, 97, 108, 107, 101, 114, 115], [87]), ([97, 100, 100], [87]), ([114, 105, 110, 103], [78]), ([116, 117, 114, 110], [78]), ([100, 114, 111, 112], [78]), ([97, 116], [78]), ([115, 104, 111, 119], []), ([112, 97, 105, 114, 115], []), ([102, 105, 114, 115, 116], []), ([108, 101, 97, 100], []), ([108, 97, 115, 116], []), ([115, 116, 97, 114, 116], []), ([109, 101, 101, 116], [78, 78]), ([119, 104, 101, 114, 101], [78, 78]), ([97, 114, 111, 117, 110, 100], [78, 78]), ([103, 97, 112], [78, 78]), ([112, 108, 97, 99, 101, 115], [78, 78]), ([100, 111, 103], [67]), ([114, 117, 110], [67]), ([97, 112, 97, 114, 116], [67, 78]), ([109, 101, 97, 110], [76]), ([116, 105, 109, 101], [76]), ([110, 101, 101, 100], [76, 78, 78]), ([118, 105, 115, 105, 116, 115], [86]), ([103, 117, 105, 100, 101, 115], [86]), ([99, 104, 97, 110, 99, 101], [78, 78, 78])]
theorem sq_no {w : List UInt8} {b : List Nat} (h : ¬ w = b.map UInt8.ofNat) : seq (bL w) (bs b) = false := by rw [bs_bL, seq_bL]; exact decide_eq_false h
theorem shape_cases (w : List UInt8) : (qfaz.f (bL w) = some (bs [], false) ∧ qfmz.f (bL w) = some (bs [63])) ∨
    ∃ e ∈ table, bL w = bs e.1 ∧ qfaz.f (bs e.1) = some (bs e.2, true) ∧ qfmz.f (bs e.1) = some (bs (e.2.map (· + 32))) := by
  by_cases h0 : w = ([119, 97, 108, 107, 101, 114, 115] : List Nat).map UInt8.ofNat
  · exact .inr ⟨([119, 97, 108, 107, 101, 114, 115], [87]), by unfold table; simp only [List.mem_cons, true_or, or_true], by rw [h0]; rfl, by unfold qfaz.f; simp only [sqn]; rfl, by unfold qfmz.f; simp only [sqn]; rfl⟩
  by_cases h1 : w = ([97, 100, 100] : List Nat).map UInt8.ofNat
  · exact .inr ⟨([97, 100, 100], [87]), by unfold table; simp only [List.mem_cons, true_or, or_true], by rw [h1]; rfl, by unfold qfaz.f; simp only [sqn]; rfl, by unfold qfmz.f; simp only [sqn]; rfl⟩
  by_cases h2 : w = ([114, 105, 110, 103] : List Nat).map UInt8.ofNat
  · exact .inr ⟨([114, 105, 110, 103], [78]), by unfold table; simp only [List.mem_cons, true_or, or_true], by rw [h2]; rfl, by unfold qfaz.f; simp only [sqn]; rfl, by unfold qfmz.f; simp only [sqn]; rfl⟩
  by_cases h3 : w = ([116, 117, 114, 110] : List Nat).map UInt8.ofNat
  · exact .inr ⟨([116, 117, 114, 110], [78]), by unfold table; simp only [List.mem_cons, true_or, or_true], by rw [h3]; rfl, by unfold qfaz.f; simp only [sqn]; rfl, by unfold qfmz.f; simp only [sqn]; rfl⟩
  by_cases h4 : w = ([100, 114, 111, 112] : List Nat).map UInt8.ofNat
  · exact .inr ⟨([100, 114, 111, 112], [78]), by unfold table; simp only [List.mem_cons, true_or, or_true], by rw [h4]; rfl, by unfold qfaz.f; simp only [sqn]; rfl, by unfold qfmz.f; simp only [sqn]; rfl⟩
  by_cases h5 : w = ([97, 116] : List Nat).map UInt8.ofNat
  · exact .inr ⟨([97, 116], [78]), by unfold table; simp only [List.mem_cons, true_or, or_true], by rw [h5]; rfl, by unfold qfaz.f; simp only [sqn]; rfl, by unfold qfmz.f; simp only [sqn]; rfl⟩
  by_cases h6 : w = ([115, 104, 111, 119] : List Nat).map UInt8.ofNat
  · exact .inr ⟨([115, 104, 111, 119], []), by unfold table; simp only [List.mem_cons, true_or, or_true], by rw [h6]; rfl, by unfold qfaz.f; simp only [sqn]; rfl, by unfold qfmz.f; simp only [sqn]; rfl⟩
  by_cases h7 : w = ([112, 97, 105, 114, 115] : List Nat).map UInt8.ofNat
  · exact .inr ⟨([112, 97, 105, 114, 115], []), by unfold table; simp only [List.mem_cons, true_or, or_true], by rw [h7]; rfl, by unfold qfaz.f; simp only [sqn]; rfl, by unfold qfmz.f; simp only [sqn]; rfl⟩
  by_cases h8 : w = ([102, 105, 114, 115, 116] : List Nat).map UInt8.ofNat
  · exact .inr ⟨([102, 105, 114, 115, 116], []), by unfold table; simp only [List.mem_cons, true_or, or_true], by rw [h8]; rfl, by unfold qfaz.f; simp only [sqn]; rfl, by unfold qfmz.f; simp only [sqn]; rfl⟩
  by_cases h9 : w = ([108, 101, 97, 100] : List Nat).map UInt8.ofNat
  · exact .inr ⟨([108, 101, 97, 100], []), by unfold table; simp only [List.mem_cons, true_or, or_true], by rw [h9]; rfl, by unfold qfaz.f; simp only [sqn]; rfl, by unfold qfmz.f; simp only [sqn]; rfl⟩
  by_cases h10 : w = ([108, 97, 115, 116] : List Nat).map UInt8.ofNat
  · exact .inr ⟨([108, 97, 115, 116], []), by unfold table; simp only [List.mem_cons, true_or, or_true], by rw [h10]; rfl, by unfold qfaz.f; simp only [sqn]; rfl, by unfold qfmz.f; simp only [sqn]; rfl⟩
  by_cases h11 : w = ([115, 116, 97, 114, 116] : List Nat).map UInt8.ofNat
  · exact .inr ⟨([115, 116, 97, 114, 116], []), by unfold table; simp only [List.mem_cons, true_or, or_true], by rw [h11]; rfl, by unfold qfaz.f; simp only [sqn]; rfl, by unfold qfmz.f; simp only [sqn]; rfl⟩
  by_cases h12 : w = ([109, 101, 101, 116] : List Nat).map UInt8.ofNat
  · exact .inr ⟨([109, 101, 101, 116], [78, 78]), by unfold table; simp only [List.mem_cons, true_or, or_true], by rw [h12]; rfl, by unfold qfaz.f; simp only [sqn]; rfl, by unfold qfmz.f; simp only [sqn]; rfl⟩
  by_cases h13 : w = ([119, 104, 101, 114, 101] : List Nat).map UInt8.ofNat
  · exact .inr ⟨([119, 104, 101, 114, 101], [78, 78]), by unfold table; simp only [List.mem_cons, true_or, or_true], by rw [h13]; rfl, by unfold qfaz.f; simp only [sqn]; rfl, by unfold qfmz.f; simp only [sqn]; rfl⟩
  by_cases h14 : w = ([97, 114, 111, 117, 110, 100] : List Nat).map UInt8.ofNat
  · exact .inr ⟨([97, 114, 111, 117, 110, 100], [78, 78]), by unfold table; simp only [List.mem_cons, true_or, or_true], by rw [h14]; rfl, by unfold qfaz.f; simp only [sqn]; rfl, by unfold qfmz.f; simp only [sqn]; rfl⟩
  by_cases h15 : w = ([103, 97, 112] : List Nat).map UInt8.ofNat
  · exact .inr ⟨([103, 97, 112], [78, 78]), by unfold table; simp only [List.mem_cons, true_or, or_true], by rw [h15]; rfl, by unfold qfaz.f; simp only [sqn]; rfl, by unfold qfmz.f; simp only [sqn]; rfl⟩
  by_cases h16 : w = ([112, 108, 97, 99, 101, 115] : List Nat).map UInt8.ofNat
  · exact .inr ⟨([112, 108, 97, 99, 101, 115], [78, 78]), by unfold table; simp only [List.mem_cons, true_or, or_true], by rw [h16]; rfl, by unfold qfaz.f; simp only [sqn]; rfl, by unfold qfmz.f; simp only [sqn]; rfl⟩
  by_cases h17 : w = ([100, 111, 103] : List Nat).map UInt8.ofNat
  · exact .inr ⟨([100, 111, 103], [67]), by unfold table; simp only [List.mem_cons, true_or, or_true], by rw [h17]; rfl, by unfold qfaz.f; simp only [sqn]; rfl, by unfold qfmz.f; simp only [sqn]; rfl⟩
  by_cases h18 : w = ([114, 117, 110] : List Nat).map UInt8.ofNat
  · exact .inr ⟨([114, 117, 110], [67]), by unfold table; simp only [List.mem_cons, true_or, or_true], by rw [h18]; rfl, by unfold qfaz.f; simp only [sqn]; rfl, by unfold qfmz.f; simp only [sqn]; rfl⟩
  by_cases h19 : w = ([97, 112, 97, 114, 116] : List Nat).map UInt8.ofNat
  · exact .inr ⟨([97, 112, 97, 114, 116], [67, 78]), by unfold table; simp only [List.mem_cons, true_or, or_true], by rw [h19]; rfl, by unfold qfaz.f; simp only [sqn]; rfl, by unfold qfmz.f; simp only [sqn]; rfl⟩
  by_cases h20 : w = ([109, 101, 97, 110] : List Nat).map UInt8.ofNat
  · exact .inr ⟨([109, 101, 97, 110], [76]), by unfold table; simp only [List.mem_cons, true_or, or_true], by rw [h20]; rfl, by unfold qfaz.f; simp only [sqn]; rfl, by unfold qfmz.f; simp only [sqn]; rfl⟩
  by_cases h21 : w = ([116, 105, 109, 101] : List Nat).map UInt8.ofNat
  · exact .inr ⟨([116, 105, 109, 101], [76]), by unfold table; simp only [List.mem_cons, true_or, or_true], by rw [h21]; rfl, by unfold qfaz.f; simp only [sqn]; rfl, by unfold qfmz.f; simp only [sqn]; rfl⟩
  by_cases h22 : w = ([110, 101, 101, 100] : List Nat).map UInt8.ofNat
  · exact .inr ⟨([110, 101, 101, 100], [76, 78, 78]), by unfold table; simp only [List.mem_cons, true_or, or_true], by rw [h22]; rfl, by unfold qfaz.f; simp only [sqn]; rfl, by unfold qfmz.f; simp only [sqn]; rfl⟩
  by_cases h23 : w = ([118, 105, 115, 105, 116, 115] : List Nat).map UInt8.ofNat
  · exact .inr ⟨([118, 105, 115, 105, 116, 115], [86]), by unfold table; simp only [List.mem_cons, true_or, or_true], by rw [h23]; rfl, by unfold qfaz.f; simp only [sqn]; rfl, by unfold qfmz.f; simp only [sqn]; rfl⟩
  by_cases h24 : w = ([103, 117, 105, 100, 101, 115] : List Nat).map UInt8.ofNat
  · exact .inr ⟨([103, 117, 105, 100, 101, 115], [86]), by unfold table; simp only [List.mem_cons, true_or, or_true], by rw [h24]; rfl, by unfold qfaz.f; simp only [sqn]; rfl, by unfold qfmz.f; simp only [sqn]; rfl⟩
  by_cases h25 : w = ([99, 104, 97, 110, 99, 101] : List Nat).map UInt8.ofNat
  · exact .inr ⟨([99, 104, 97, 110, 99, 101], [78, 78, 78]), by unfold table; simp only [List.mem_cons, true_or, or_true], by rw [h25]; rfl, by unfold qfaz.f; simp only [sqn]; rfl, by unfold qfmz.f; simp only [sqn]; rfl⟩
  refine .inl ⟨?_, ?_⟩
  · unfold qfaz.f; simp only [sq_no h0, sq_no h1, sq_no h2, sq_no h3, sq_no h4, sq_no h5, sq_no h6, sq_no h7, sq_no h8, sq_no h9, sq_no h10, sq_no h11, sq_no h12, sq_no h13, sq_no h14, sq_no h15, sq_no h16, sq_no h17, sq_no h18, sq_no h19, sq_no h20, sq_no h21, sq_no h22, sq_no h23, sq_no h24, sq_no h25, Bool.false_eq_true, if_false]
  · unfold qfmz.f; simp only [sq_no h0, sq_no h1, sq_no h2, sq_no h3, sq_no h4, sq_no h5, sq_no h6, sq_no h7, sq_no h8, sq_no h9, sq_no h10, sq_no h11, sq_no h12, sq_no h13, sq_no h14, sq_no h15, sq_no h16, sq_no h17, sq_no h18, sq_no h19, sq_no h20, sq_no h21, sq_no h22, sq_no h23, sq_no h24, sq_no h25, Bool.false_eq_true, if_false]
abbrev Ar := List Wk × (Int × (Int × (Int × (Int × (List Wk × (List Wk × List Int))))))
def takeA (c : Nat) (w : List UInt8) (s : Ar) : Option Ar :=
  if c = 87 then (if (walkersSays w).2 = true then some ((walkersSays w).1, s.2) else none)
  else if c = 67 then (if (chaseSays w).2 = true then some (s.1, ((chaseSays w).1.1, ((chaseSays w).1.2.1, ((chaseSays w).1.2.2.1, ((chaseSays w).1.2.2.2, s.2.2.2.2.2))))) else none)
  else if c = 76 then (if (legsSays w).2 = true then some (s.1, (s.2.1, (s.2.2.1, (s.2.2.2.1, (s.2.2.2.2.1, ((legsSays w).1, s.2.2.2.2.2.2)))))) else none)
  else if c = 86 then (if (visitsSays w).2 = true then some (s.1, (s.2.1, (s.2.2.1, (s.2.2.2.1, (s.2.2.2.2.1, (s.2.2.2.2.2.1, ((visitsSays w).1, s.2.2.2.2.2.2.2))))))) else none)
  else if 0 ≤ l1r w then some (s.1, (s.2.1, (s.2.2.1, (s.2.2.2.1, (s.2.2.2.2.1, (s.2.2.2.2.2.1, (s.2.2.2.2.2.2.1, s.2.2.2.2.2.2.2 ++ [l1r w]))))))) else none
def takeL : List Nat → List (List UInt8) → Ar → Option Ar
  | [], _, s => some s
  | _ :: _, [], _ => none
  | c :: cs, w :: ws, s => (takeA c w s).bind (takeL cs ws)
theorem num_both (w : List UInt8) : (∃ n, 0 ≤ n ∧ n ≤ 999999 ∧ numOf w = (n, true) ∧ l1r w = n) ∨ (l1r w = -1 ∧ ((numOf w).2 = false ∨ decide (0 ≤ (numOf w).1 ∧ (numOf w).1 ≤ 999999) = false)) := by
  rcases l1r_cases w with ⟨n, h0, h1, hw, h2⟩ | ⟨h2, hn⟩
  · exact .inl ⟨n, h0, h1, by rw [hw]; exact numOf_itoa (by omega) (by omega), h2⟩
  · refine .inr ⟨h2, ?_⟩
    rcases numOf_cases w with ⟨n, _, _, hw, h3⟩ | ⟨h3, _⟩
    · refine .inr (decide_eq_false fun h => hn n ?_ ?_ hw)
      · rw [h3] at h; exact h.1
      · rw [h3] at h; exact h.2
    · exact .inl (by rw [h3])
theorem takeA_N (w : List UInt8) (s : Ar) : takeA 78 w s = if 0 ≤ l1r w then some (s.1, (s.2.1, (s.2.2.1, (s.2.2.2.1, (s.2.2.2.2.1, (s.2.2.2.2.2.1, (s.2.2.2.2.2.2.1, s.2.2.2.2.2.2.2 ++ [l1r w]))))))) else none := by
  unfold takeA
  rw [if_neg (by decide), if_neg (by decide), if_neg (by decide), if_neg (by decide)]
def letter (c : Nat) : Prop := c = 87 ∨ c = 67 ∨ c = 76 ∨ c = 86 ∨ c = 78
theorem impl_take_eq {c : Nat} (hc : letter c) {w : List UInt8} (hw : w.length ≤ 2000000) (s : Ar) (hs : s.2.2.2.2.2.2.2.length ≤ 1000) :
    ∃ t : Ar, Ev (fun k => qbuz.f k s.1 s.2.1 s.2.2.1 s.2.2.2.1 s.2.2.2.2.1 s.2.2.2.2.2.1 s.2.2.2.2.2.2.1 s.2.2.2.2.2.2.2 (c : Int) (bL w)) ((takeA c w s).isSome, t) ∧ ∀ t', takeA c w s = some t' → t = t' := by
  rcases hc with rfl | rfl | rfl | rfl | rfl
  · refine ⟨((walkersSays w).1, s.2), qbuz.v ?_, ?_⟩
    · simp (disch := omega) only [S]
      refine Ev.bind (impl_ParseWalkers_eq hw) (ev_now ?_)
      unfold takeA
      rw [if_pos rfl]
      cases (walkersSays w).2 <;> rfl
    · intro t' h
      unfold takeA at h
      rw [if_pos rfl] at h
      split at h
      · injection h
      · cases h
  · refine ⟨(s.1, ((chaseSays w).1.1, ((chaseSays w).1.2.1, ((chaseSays w).1.2.2.1, ((chaseSays w).1.2.2.2, s.2.2.2.2.2))))), qbuz.v ?_, ?_⟩
    · simp (disch := omega) only [S]
      refine Ev.bind (impl_ParseChase_eq hw) (ev_now ?_)
      unfold takeA
      rw [if_neg (by decide), if_pos rfl]
      cases (chaseSays w).2 <;> rfl
    · intro t' h
      unfold takeA at h
      rw [if_neg (by decide), if_pos rfl] at h
      split at h
      · injection h
      · cases h
  · refine ⟨(s.1, (s.2.1, (s.2.2.1, (s.2.2.2.1, (s.2.2.2.2.1, ((legsSays w).1, s.2.2.2.2.2.2)))))), qbuz.v ?_, ?_⟩
    · simp (disch := omega) only [S]
      refine Ev.bind (impl_ParseLegs_eq hw) (ev_now ?_)
      unfold takeA
      rw [if_neg (by decide), if_neg (by decide), if_pos rfl]
      cases (legsSays w).2 <;> rfl
    · intro t' h
      unfold takeA at h
      rw [if_neg (by decide), if_neg (by decide), if_pos rfl] at h
      split at h
      · injection h
      · cases h
  · refine ⟨(s.1, (s.2.1, (s.2.2.1, (s.2.2.2.1, (s.2.2.2.2.1, (s.2.2.2.2.2.1, ((visitsSays w).1, s.2.2.2.2.2.2.2))))))), qbuz.v ?_, ?_⟩
    · simp (disch := omega) only [S]
      refine Ev.bind (impl_ParseVisits_eq hw) (ev_now ?_)
      unfold takeA
      rw [if_neg (by decide), if_neg (by decide), if_neg (by decide), if_pos rfl]
      cases (visitsSays w).2 <;> rfl
    · intro t' h
      unfold takeA at h
      rw [if_neg (by decide), if_neg (by decide), if_neg (by decide), if_pos rfl] at h
      split at h
      · injection h
      · cases h
  · refine ⟨(s.1, (s.2.1, (s.2.2.1, (s.2.2.2.1, (s.2.2.2.2.1, (s.2.2.2.2.2.1, (s.2.2.2.2.2.2.1, s.2.2.2.2.2.2.2 ++ [(numOf w).1]))))))), qbuz.v ?_, ?_⟩
    · simp (disch := omega) only [S, impl_readNumber_eq hw, impl_within_eq]
      rw [takeA_N]
      rcases num_both w with ⟨n, h0, h1, hn, hr⟩ | ⟨hr, hn⟩
      · rw [hn, hr, if_pos h0]
        refine ev_now ?_
        rw [show decide (0 ≤ n ∧ n ≤ 999999) = true from decide_eq_true ⟨h0, h1⟩]
        rfl
      · rw [hr]
        rcases hn with hn | hn
        · simp only [hn, Bool.false_eq_true, if_false]
          exact ev_now rfl
        · simp only [hn]
          cases (numOf w).2
          · exact ev_now rfl
          · exact ev_now rfl
    · intro t' h
      rw [takeA_N] at h
      rcases num_both w with ⟨n, h0, h1, hn, hr⟩ | ⟨hr, hn⟩
      · rw [hr, if_pos h0] at h
        rw [hn]
        injection h
      · rw [hr] at h
        simp at h
abbrev ReadR := BA × ((List Wk × (Int × Ar)) × Bool)
noncomputable abbrev specL0 (k : Fu) (X : List BA) (Y : BA) (Z : List BA) (m i : Int) (D : List Wk) (n : Int) (s : Ar) : Option ReadR := qhdz.l0 k X Y Z m i 0 0 0 0 0 D n s.1 s.2.1 s.2.2.1 s.2.2.2.1 s.2.2.2.2.1 s.2.2.2.2.2.1 s.2.2.2.2.2.2.1 s.2.2.2.2.2.2.2
noncomputable abbrev implL0 (k : Fu) (X : List BA) (Y : BA) (Z : List BA) (m i : Int) (D : List Wk) (n : Int) (s : Ar) := qerz.l0 k X Y Z m i D n 0 s.1 s.2.1 s.2.2.1 s.2.2.2.1 s.2.2.2.2.1 s.2.2.2.2.2.1 s.2.2.2.2.2.2.1 s.2.2.2.2.2.2.2
theorem bat_bs {fs : List Nat} {i : Nat} (h : i < fs.length) : bat (bs fs) (i : Int) = ((fs.getD i 0 % 256 : Nat) : Int) := by
  rw [bs_bL, bat_bL (by simpa using h)]
  have e : (fs.map UInt8.ofNat).getD i 0 = UInt8.ofNat (fs.getD i 0) := by simp [h]
  rw [e, UInt8.toNat_ofNat']
theorem bs_size (fs : List Nat) : (bs fs).size = fs.length := by rw [bs_bL, bL_size, List.length_map]
theorem spec_step {X : List BA} {fs : List Nat} {ws : List (List UInt8)} (hfw : fs.length = ws.length) (hl : ws.length ≤ 1000) (hw : ∀ w ∈ ws, w.length ≤ 2000000) {D : List Wk} {n : Int} (s : Ar) (hs : s.2.2.2.2.2.2.2.length ≤ 1000) {i : Nat} (hi : i < ws.length) (hc : letter (fs.getD i 0)) :
    (takeA (fs.getD i 0) (ws.getD i []) s = none → ∃ z, Ev (fun k => specL0 k X (bs (fs.map (· + 32))) (ws.map bL) (ws.length : Int) (i : Int) D n s) (bs [], (z, false))) ∧
    (∀ t, takeA (fs.getD i 0) (ws.getD i []) s = some t → ∀ r, Ev (fun k => specL0 k X (bs (fs.map (· + 32))) (ws.map bL) (ws.length : Int) ((i + 1 : Nat) : Int) D n t) r → Ev (fun k => specL0 k X (bs (fs.map (· + 32))) (ws.map bL) (ws.length : Int) (i : Int) D n s) r) := by
  have hwi := hw _ (getD_mem (z := []) hi)
  have hb : bat (bs (fs.map (· + 32))) (i : Int) = (((fs.getD i 0 + 32) % 256 : Nat) : Int) := by
    rw [bat_bs (by simp; omega)]
    have e : (fs.map (· + 32)).getD i 0 = fs.getD i 0 + 32 := by
      have : i < fs.length := by omega
      simp [this]
    rw [e]
  have hz := bs_size (fs.map (· + 32))
  rw [List.length_map] at hz
  have hml : (ws.map bL).length = ws.length := List.length_map _
  have hg := getD_bL ws i
  generalize fs.getD i 0 = c at *
  generalize ws.getD i [] = w at *
  rcases hc with rfl | rfl | rfl | rfl | rfl
  · have hE := spec_meParse_eq hwi
    cases hq : (walkersSays w).2 with
    | true =>
      refine ⟨fun h => by unfold takeA at h; simp [hq] at h, fun t h r hr => qhdz.v0 ?_⟩
      have ht : t = ((walkersSays w).1, s.2) := by unfold takeA at h; simp [hq] at h; exact h.symm
      subst ht
      simp (disch := omega) only [S, hb, hg]
      refine Ev.bind hE ?_
      simp (disch := omega) only [S, hq]
      exact hr
    | false =>
      refine ⟨fun _ => ⟨(D, (n, ((walkersSays w).1, s.2))), qhdz.v0 ?_⟩, fun t h => by unfold takeA at h; simp [hq] at h⟩
      simp (disch := omega) only [S, hb, hg]
      refine Ev.bind hE ?_
      simp (disch := omega) only [S, hq]
      exact Ev.now _
  · have hE := spec_doParse_eq hwi
    cases hq : (chaseSays w).2 with
    | true =>
      refine ⟨fun h => by unfold takeA at h; simp [hq] at h, fun t h r hr => qhdz.v0 ?_⟩
      have ht : t = (s.1, ((chaseSays w).1.1, ((chaseSays w).1.2.1, ((chaseSays w).1.2.2.1, ((chaseSays w).1.2.2.2, s.2.2.2.2.2))))) := by unfold takeA at h; simp [hq] at h; exact h.symm
      subst ht
      simp (disch := omega) only [S, hb, hg]
      refine Ev.bind hE ?_
      simp (disch := omega) only [S, hq]
      exact hr
    | false =>
      refine ⟨fun _ => ⟨(D, (n, (s.1, ((chaseSays w).1.1, ((chaseSays w).1.2.1, ((chaseSays w).1.2.2.1, ((chaseSays w).1.2.2.2, s.2.2.2.2.2))))))), qhdz.v0 ?_⟩, fun t h => by unfold takeA at h; simp [hq] at h⟩
      simp (disch := omega) only [S, hb, hg]
      refine Ev.bind hE ?_
      simp (disch := omega) only [S, hq]
      exact Ev.now _
  · have hE := spec_reParse_eq hwi
    cases hq : (legsSays w).2 with
    | true =>
      refine ⟨fun h => by unfold takeA at h; simp [hq] at h, fun t h r hr => qhdz.v0 ?_⟩
      have ht : t = (s.1, (s.2.1, (s.2.2.1, (s.2.2.2.1, (s.2.2.2.2.1, ((legsSays w).1, s.2.2.2.2.2.2)))))) := by unfold takeA at h; simp [hq] at h; exact h.symm
      subst ht
      simp (disch := omega) only [S, hb, hg]
      refine Ev.bind hE ?_
      simp (disch := omega) only [S, hq]
      exact hr
    | false =>
      refine ⟨fun _ => ⟨(D, (n, (s.1, (s.2.1, (s.2.2.1, (s.2.2.2.1, (s.2.2.2.2.1, ((legsSays w).1, s.2.2.2.2.2.2)))))))), qhdz.v0 ?_⟩, fun t h => by unfold takeA at h; simp [hq] at h⟩
      simp (disch := omega) only [S, hb, hg]
      refine Ev.bind hE ?_
      simp (disch := omega) only [S, hq]
      exact Ev.now _
  · have hE := spec_wiParse_eq hwi
    cases hq : (visitsSays w).2 with
    | true =>
      refine ⟨fun h => by unfold takeA at h; simp [hq] at h, fun t h r hr => qhdz.v0 ?_⟩
      have ht : t = (s.1, (s.2.1, (s.2.2.1, (s.2.2.2.1, (s.2.2.2.2.1, (s.2.2.2.2.2.1, ((visitsSays w).1, s.2.2.2.2.2.2.2))))))) := by unfold takeA at h; simp [hq] at h; exact h.symm
      subst ht
      simp (disch := omega) only [S, hb, hg]
      refine Ev.bind hE ?_
      simp (disch := omega) only [S, hq]
      exact hr
    | false =>
      refine ⟨fun _ => ⟨(D, (n, (s.1, (s.2.1, (s.2.2.1, (s.2.2.2.1, (s.2.2.2.2.1, (s.2.2.2.2.2.1, ((visitsSays w).1, s.2.2.2.2.2.2.2))))))))), qhdz.v0 ?_⟩, fun t h => by unfold takeA at h; simp [hq] at h⟩
      simp (disch := omega) only [S, hb, hg]
      refine Ev.bind hE ?_
      simp (disch := omega) only [S, hq]
      exact Ev.now _
  · have hE := spec_l1Read_eq hwi
    by_cases hq : 0 ≤ l1r w
    · refine ⟨fun h => by unfold takeA at h; simp [hq] at h, fun t h r hr => qhdz.v0 ?_⟩
      have ht : t = (s.1, (s.2.1, (s.2.2.1, (s.2.2.2.1, (s.2.2.2.2.1, (s.2.2.2.2.2.1, (s.2.2.2.2.2.2.1, s.2.2.2.2.2.2.2 ++ [l1r w]))))))) := by unfold takeA at h; simp [hq] at h; exact h.symm
      subst ht
      simp (disch := omega) only [S, hb, hg]
      refine Ev.bind hE ?_
      simp (disch := omega) only [S]
      exact hr
    · refine ⟨fun _ => ⟨(D, (n, (s.1, (s.2.1, (s.2.2.1, (s.2.2.2.1, (s.2.2.2.2.1, (s.2.2.2.2.2.1, (s.2.2.2.2.2.2.1, s.2.2.2.2.2.2.2 ++ [l1r w]))))))))), qhdz.v0 ?_⟩, fun t h => by unfold takeA at h; simp [hq] at h⟩
      simp (disch := omega) only [S, hb, hg]
      refine Ev.bind hE ?_
      simp (disch := omega) only [S]
      exact Ev.now _
def whatB : BA := bs [119, 104, 97, 116]
def noB : BA := bs [110, 111]
abbrev ChR := (List Wk × Int) × (BA × (Bool × Ar))
def fin (D : List Wk) (n : Int) (R : ChR) : (List Wk × Int) × BA := if R.2.2.1 = true then (R.1, R.2.1) else ((D, n), noB)
theorem read_loop {w0 : List UInt8} {fs : List Nat} {ws : List (List UInt8)} (hf : ∀ c ∈ fs, letter c) (hfw : fs.length = ws.length) (hl : ws.length ≤ 1000) (hw : ∀ w ∈ ws, w.length ≤ 2000000) {D : List Wk} {n : Int} :
    ∀ (d i : Nat), i + d = ws.length → ∀ s : Ar, s.2.2.2.2.2.2.2.length ≤ i →
      (takeL (fs.drop i) (ws.drop i) s = none → Ev (fun k => implL0 k (bL w0 :: ws.map bL) (bs fs) (ws.map bL) (ws.length : Int) (i : Int) D n s) ((D, n), whatB) ∧
        ∃ z, Ev (fun k => specL0 k (bL w0 :: ws.map bL) (bs (fs.map (· + 32))) (ws.map bL) (ws.length : Int) (i : Int) D n s) (bs [], (z, false))) ∧
      (∀ t, takeL (fs.drop i) (ws.drop i) s = some t →
        (∀ R : ChR, Ev (fun k => qckz.f k D n (bL w0) t.1 t.2.1 t.2.2.1 t.2.2.2.1 t.2.2.2.2.1 t.2.2.2.2.2.1 t.2.2.2.2.2.2.1 t.2.2.2.2.2.2.2) R → Ev (fun k => implL0 k (bL w0 :: ws.map bL) (bs fs) (ws.map bL) (ws.length : Int) (i : Int) D n s) (fin D n R)) ∧
        Ev (fun k => specL0 k (bL w0 :: ws.map bL) (bs (fs.map (· + 32))) (ws.map bL) (ws.length : Int) (i : Int) D n s) (bL w0, ((D, (n, t)), true))) := by
  have hX : ∀ {β : Type} (x : Option β), gd (0 < (((bL w0 :: ws.map bL).length : Nat) : Int)) x = x := fun x => S.1 (by rw [List.length_cons]; omega)
  intro d
  induction d with
  | zero =>
    intro i hi s hs
    rw [List.drop_eq_nil_of_le (by omega)]
    refine ⟨fun h => by simp [takeL] at h, fun t ht => ?_⟩
    have ht : t = s := by simp [takeL] at ht; exact ht.symm
    subst ht
    refine ⟨fun R hR => qerz.v0 ?_, qhdz.v0 ?_⟩
    · simp (disch := omega) only [S, hX, rd0]
      refine Ev.bind hR ?_
      unfold fin
      cases R.2.2.1
      · exact Ev.now _
      · exact Ev.now _
    · simp (disch := omega) only [S, hX, rd0]
      exact Ev.now _
  | succ d ih =>
    intro i hi s hs
    have hif : i < fs.length := by omega
    have hc := hf _ (getD_mem (z := 0) hif)
    have hwi := hw _ (getD_mem (z := []) (show i < ws.length by omega))
    obtain ⟨p1, p2⟩ := spec_step (X := bL w0 :: ws.map bL) (D := D) (n := n) hfw hl hw s (by omega) (show i < ws.length by omega) hc
    obtain ⟨t0, q1, q2⟩ := impl_take_eq hc hwi s (by omega)
    have hb : bat (bs fs) (i : Int) = ((fs.getD i 0 : Nat) : Int) := by
      rw [bat_bs hif]
      rcases hc with e | e | e | e | e <;> rw [e]
    have hz := bs_size fs
    have hml : (ws.map bL).length = ws.length := List.length_map _
    rw [drop_cons 0 hif, drop_cons [] (show i < ws.length by omega)]
    cases hA : takeA (fs.getD i 0) (ws.getD i []) s with
    | none =>
      refine ⟨fun _ => ⟨qerz.v0 ?_, p1 hA⟩, fun t ht => by
        have h' : (takeA (fs.getD i 0) (ws.getD i []) s).bind (takeL (fs.drop (i + 1)) (ws.drop (i + 1))) = some t := ht
        rw [hA] at h'; cases h'⟩
      rw [hA] at q1
      simp (disch := omega) only [S, hb, getD_bL]
      refine Ev.bind q1 ?_
      exact Ev.now _
    | some t1 =>
      rw [hA] at q1
      have e := q2 t1 hA
      subst e
      have hlen : t0.2.2.2.2.2.2.2.length ≤ i + 1 := by
        unfold takeA at hA
        split at hA
        · split at hA
          · injection hA with hA; subst hA; exact Nat.le_succ_of_le hs
          · cases hA
        · split at hA
          · split at hA
            · injection hA with hA; subst hA; exact Nat.le_succ_of_le hs
            · cases hA
          · split at hA
            · split at hA
              · injection hA with hA; subst hA; exact Nat.le_succ_of_le hs
              · cases hA
            · split at hA
              · split at hA
                · injection hA with hA; subst hA; exact Nat.le_succ_of_le hs
                · cases hA
              · split at hA
                · injection hA with hA; subst hA; simp; omega
                · cases hA
      obtain ⟨i1, i2⟩ := ih (i + 1) (by omega) t0 hlen
      have step : ∀ r, Ev (fun k => implL0 k (bL w0 :: ws.map bL) (bs fs) (ws.map bL) (ws.length : Int) ((i + 1 : Nat) : Int) D n t0) r → Ev (fun k => implL0 k (bL w0 :: ws.map bL) (bs fs) (ws.map bL) (ws.length : Int) (i : Int) D n s) r := by
        intro r hr
        refine qerz.v0 ?_
        simp (disch := omega) only [S, hb, getD_bL]
        refine Ev.bind q1 ?_
        simp (disch := omega) only [S, Option.isSome_some]
        exact hr
      have hT : takeL (fs.getD i 0 :: fs.drop (i + 1)) (ws.getD i [] :: ws.drop (i + 1)) s = takeL (fs.drop (i + 1)) (ws.drop (i + 1)) t0 := by
        show (takeA _ _ s).bind _ = _
        rw [hA]; rfl
      rw [hT]
      refine ⟨fun h => ?_, fun t h => ?_⟩
      · obtain ⟨a, z, b⟩ := i1 h
        exact ⟨step _ a, z, p2 t0 hA _ b⟩
      · obtain ⟨a, b⟩ := i2 t h
        exact ⟨fun R hR => step _ (a R hR), p2 t0 hA _ b⟩
theorem BQ : (∀ a b : List Nat, seq (bs a) (bs b) = beqN a b) ∧ (beqN [] [] = true) ∧ (∀ (a b : Nat) (l m : List Nat), beqN (a :: l) (b :: m) = ((a % 256 == b % 256) && beqN l m)) ∧ (∀ (b : Nat) (m : List Nat), beqN [] (b :: m) = false) ∧ (∀ (a : Nat) (l : List Nat), beqN (a :: l) [] = false) ∧ (∀ b : Bool, (true && b) = b) ∧ (∀ b : Bool, (false && b) = false) :=
  ⟨sqn, rfl, fun _ _ _ _ => rfl, fun _ _ => rfl, fun _ _ => rfl, fun _ => rfl, fun _ => rfl⟩
theorem LN : (∀ {α : Type} (a : α) (l : List α), (a :: l).length = l.length + 1) ∧ (∀ {α : Type}, ([] : List α).length = 0) ∧ (∀ {α : Type} (z a : α) (l : List α), rd z (a :: l) 0 = a) ∧ (∀ {α : Type} (z a b : α) (l : List α), rd z (a :: b :: l) 1 = b) ∧ (∀ {α : Type} (z a b c : α) (l : List α), rd z (a :: b :: c :: l) 2 = c) ∧ (∀ {α : Type} (l : List α), [] ++ l = l) :=
  ⟨fun _ _ => rfl, rfl, fun _ _ _ => rfl, fun _ _ _ _ => rfl, fun _ _ _ _ _ => rfl, fun _ => rfl⟩
noncomputable abbrev chgF (k : Fu) (D : List Wk) (n : Int) (w : BA) (t : Ar) : Option ChR := qckz.f k D n w t.1 t.2.1 t.2.2.1 t.2.2.2.1 t.2.2.2.2.1 t.2.2.2.2.2.1 t.2.2.2.2.2.2.1 t.2.2.2.2.2.2.2
abbrev StR := BA × (List Wk × (Int × Ar))
noncomputable abbrev movF (k : Fu) (D : List Wk) (n : Int) (t : Ar) (w : BA) : Option StR := qcaz.f k D n t.1 t.2.1 t.2.2.1 t.2.2.2.1 t.2.2.2.2.1 t.2.2.2.2.2.1 t.2.2.2.2.2.2.1 t.2.2.2.2.2.2.2 w
noncomputable abbrev asdF (k : Fu) (D : List Wk) (n : Int) (t : Ar) (w : BA) : Option StR := qchz.f k D n t.1 t.2.1 t.2.2.1 t.2.2.2.1 t.2.2.2.2.1 t.2.2.2.2.2.1 t.2.2.2.2.2.2.1 t.2.2.2.2.2.2.2 w
noncomputable abbrev askF (k : Fu) (D : List Wk) (n : Int) (w : BA) (t : Ar) : Option (BA × (Bool × Ar)) := qewz.f k D n w t.1 t.2.1 t.2.2.1 t.2.2.2.1 t.2.2.2.2.1 t.2.2.2.2.2.1 t.2.2.2.2.2.2.1 t.2.2.2.2.2.2.2
def Act (w : BA) (t : Ar) (D : List Wk) (n : Int) : Prop := ∃ r : (List Wk × Int) × BA, dOk r.1.1 r.1.2 = true ∧ (∃ R : ChR, Ev (fun k => chgF k D n w t) R ∧ r = fin D n R) ∧
  ∀ line, Ev (fun k => qhdz.f k D n line) (w, ((D, (n, t)), true)) → Ev (fun k => qhcz.f k D n line) r
theorem dOk_iff {D : List Wk} {n : Int} : dOk D n = true ↔ listOk 8 wOk D = true ∧ (1 ≤ n ∧ n ≤ 1000) := by unfold dOk; rw [Bool.and_eq_true, decide_eq_true_eq]
theorem chg_eq (X : List Wk) (n : Int) (t : Ar) : Ev (fun k => (qgtz.f k X n).bind fun t0 => if (!t0) then some ((X, n), (bs [], (false, t))) else (qclz.f k X).bind fun t1 => some ((X, n), (t1.1, (t1.2, t)))) (if dOk X n = true then ((X, n), (bL (wkT X), (true, t))) else ((X, n), (bs [], (false, t)))) := by
  refine Ev.bind (impl_IsDesk_eq X n) ?_
  cases h : dOk X n with
  | false => simp only [S]; exact Ev.now _
  | true =>
    simp only [S]
    refine Ev.bind (impl_WalkersText_eq X) ?_
    rw [if_pos (dOk_iff.1 h).1]
    exact Ev.now _
theorem lay_eq (D X : List Wk) (n : Int) (t : Ar) : Ev (fun k => qdpz.f k D n t.1 t.2.1 t.2.2.1 t.2.2.2.1 t.2.2.2.2.1 t.2.2.2.2.2.1 t.2.2.2.2.2.2.1 t.2.2.2.2.2.2.2 X) (if listOk 8 wOk X = true then (bL (wkT X), (X, (n, t))) else (noB, (D, (n, t)))) := by
  refine qdpz.v (Ev.bind (spec_meAll_eq X) ?_)
  cases h : listOk 8 wOk X with
  | false => simp only [S]; exact Ev.now _
  | true =>
    simp only [S]
    exact Ev.bind (spec_meText_eq h) (Ev.now _)
theorem act_change {w : BA} {t : Ar} {D X : List Wk} {n m : Int} (hD : dOk D n = true)
    (h1 : Ev (fun k => chgF k D n w t) (if dOk X m = true then ((X, m), (bL (wkT X), (true, t))) else ((X, m), (bs [], (false, t)))))
    (h2 : ∃ Z : StR, Ev (fun k => movF k D n t w) Z ∧ ((Z.2.1, Z.2.2.1), Z.1) = (if dOk X m = true then ((X, m), bL (wkT X)) else ((D, n), noB)))
    (h3 : ∀ Z : StR, Ev (fun k => movF k D n t w) Z → ∀ line, Ev (fun k => qhdz.f k D n line) (w, ((D, (n, t)), true)) → Ev (fun k => qhcz.f k D n line) ((Z.2.1, Z.2.2.1), Z.1)) : Act w t D n := by
  obtain ⟨Z, z1, z2⟩ := h2
  refine ⟨if dOk X m = true then ((X, m), bL (wkT X)) else ((D, n), noB), ?_, ⟨_, h1, ?_⟩, fun line hl => by rw [← z2]; exact h3 Z z1 line hl⟩
  · split
    · assumption
    · exact hD
  · unfold fin
    split <;> rfl
theorem act_no {w : BA} {t : Ar} {D : List Wk} {n : Int} (hD : dOk D n = true) {R : ChR} (h1 : Ev (fun k => chgF k D n w t) R) (hR : R.2.2.1 = false) (h3 : ∀ line, Ev (fun k => qhdz.f k D n line) (w, ((D, (n, t)), true)) → Ev (fun k => qhcz.f k D n line) ((D, n), noB)) : Act w t D n :=
  ⟨((D, n), noB), hD, ⟨R, h1, by unfold fin; rw [hR]; rfl⟩, h3⟩
theorem act_ask {w : BA} {t : Ar} {D : List Wk} {n : Int} (hD : dOk D n = true)
    (h1 : ∀ r, Ev (fun k => askF k D n w t) r → Ev (fun k => chgF k D n w t) ((D, n), r))
    (h2 : ∀ Z : StR, Ev (fun k => asdF k D n t w) Z → ∀ line, Ev (fun k => qhdz.f k D n line) (w, ((D, (n, t)), true)) → Ev (fun k => qhcz.f k D n line) ((D, n), Z.1))
    (h3 : ∃ (T : BA) (ok : Bool), Ev (fun k => askF k D n w t) (T, (ok, t)) ∧ Ev (fun k => asdF k D n t w) ((if ok = true then T else noB), (D, (n, t)))) : Act w t D n := by
  obtain ⟨T, ok, a, b⟩ := h3
  refine ⟨((D, n), if ok = true then T else noB), hD, ⟨_, h1 _ a, ?_⟩, h2 _ b⟩
  unfold fin
  cases ok <;> rfl
abbrev Ans (F : Fu → Option (BA × (Bool × Ar))) (G : Fu → Option StR) (D : List Wk) (n : Int) (t : Ar) : Prop := ∃ (T : BA) (ok : Bool), Ev F (T, (ok, t)) ∧ Ev G ((if ok = true then T else noB), (D, (n, t)))
theorem part_of {F G : Fu → Option R3} (D : List Wk) (n : Int) (t : Ar) (h : Same3 F G) : Ans (fun k => (F k).bind fun t0 => (qhyz.f k t0.1 t0.2.1 t0.2.2).bind fun t1 => some (t1.1, (t1.2, t))) (fun k => (G k).bind fun t0 => (qgnz.f k t0.1 t0.2.1 t0.2.2).bind fun t1 => some (t1, (D, (n, t)))) D n t := by
  obtain ⟨r, a, b, c, d⟩ := h
  refine ⟨bL (numT 47 [r.1, r.2.1]), r.2.2, Ev.bind a (Ev.bind (impl_told_eq c d _) (Ev.now _)), Ev.bind b (Ev.bind (spec_coPart_eq c d _) (ev_now ?_))⟩
  unfold partSays
  cases r.2.2 <;> rfl
abbrev Ans2 (F : Fu → Option (BA × Bool)) (G : Fu → Option StR) (D : List Wk) (n : Int) (t : Ar) : Prop := ∃ (T : BA) (ok : Bool), Ev F (T, ok) ∧ Ev G ((if ok = true then T else noB), (D, (n, t)))
theorem part_of2 {F G : Fu → Option R3} (D : List Wk) (n : Int) (t : Ar) (h : Same3 F G) : Ans2 (fun k => (F k).bind fun t0 => (qhyz.f k t0.1 t0.2.1 t0.2.2).bind fun t1 => some t1) (fun k => (G k).bind fun t0 => (qgnz.f k t0.1 t0.2.1 t0.2.2).bind fun t1 => some (t1, (D, (n, t)))) D n t := by
  obtain ⟨r, a, b, c, d⟩ := h
  refine ⟨bL (numT 47 [r.1, r.2.1]), r.2.2, Ev.bind a (Ev.bind (impl_told_eq c d _) (Ev.now _)), Ev.bind b (Ev.bind (spec_coPart_eq c d _) (ev_now ?_))⟩
  unfold partSays
  cases r.2.2 <;> rfl
theorem text_of {F G : Fu → Option (List Int × Bool)} {L : List Int} (D : List Wk) (n : Int) (t : Ar) (a : Ev F (L, true)) (b : Ev G (L, true)) (hl : L.length ≤ 1000000) (hL : ∀ x ∈ L, i64 x) : Ans (fun k => (F k).bind fun t0 => (qfjz.f k t0.1 t0.2).bind fun t1 => some (t1.1, (t1.2, t))) (fun k => (G k).bind fun t0 => (qgkz.f k t0.1 t0.2).bind fun t1 => some (t1, (D, (n, t)))) D n t :=
  ⟨bL (numsT L), true, Ev.bind a (Ev.bind (impl_numbers_eq hl hL _) (Ev.now _)), Ev.bind b (Ev.bind (spec_coText_eq hl hL _) (Ev.now _))⟩
theorem lists_none (c1 c2 : BA) (b : Bool) : Ev (fun k => qhsz.f k [] c1 c2 b) (bs [45], b) := by
  refine qhsz.v ?_
  simp (disch := omega) only [S, LN]
  exact Ev.now _
theorem rows_of {F G : Fu → Option (List (List Int) × Bool)} {L : List (List Int)} (D : List Wk) (n : Int) (t : Ar) (a : Ev F (L, true)) (b : Ev G (L, true)) (hl : L.length ≤ 1000) (hL : rows2 L) : Ans (fun k => (F k).bind fun t0 => (qhsz.f k t0.1 (bs [44]) (bs [32]) t0.2).bind fun t1 => some (t1.1, (t1.2, t))) (fun k => (G k).bind fun t0 => (qgoz.f k t0.1 t0.2).bind fun t1 => some (t1, (D, (n, t)))) D n t := by
  by_cases h0 : L = []
  · subst h0
    refine ⟨bs [45], true, Ev.bind a (Ev.bind (lists_none _ _ _) (Ev.now _)), Ev.bind b (Ev.bind (v := bs [45]) (qgoz.v ?_) (Ev.now _))⟩
    simp (disch := omega) only [S, LN]
    exact Ev.now _
  · have h0' : 0 < L.length := List.length_pos_iff.2 h0
    refine ⟨bL (rowsT 44 32 L), true, Ev.bind a (Ev.bind (impl_lists_eq h0' hl (fun r hr => by have := hL r hr; exact ⟨by omega, this.2⟩) _) (Ev.now _)), Ev.bind b (Ev.bind (spec_coRows_eq h0' hl (fun r hr => by have := hL r hr; exact ⟨by omega, this.2⟩)) (Ev.now _))⟩
theorem places_of {F G : Fu → Option (List (List Int) × Bool)} {r : List (List Int) × Bool} (D : List Wk) (n : Int) (t : Ar) (a : Ev F r) (b : Ev G r) (hL : rows2 r.1) (hl : r.1.length ≤ 1000) (h1 : r.2 = true → 0 < r.1.length) (h2 : r.2 = false → r.1 = []) : Ans2 (fun k => (F k).bind fun t0 => (qhsz.f k t0.1 (bs [47]) (bs [44]) t0.2).bind fun t1 => some t1) (fun k => (G k).bind fun t0 => (qfuz.f k t0.1 t0.2).bind fun t1 => some (t1, (D, (n, t)))) D n t := by
  obtain ⟨L, b0⟩ := r
  cases b0 with
  | false =>
    have : L = [] := h2 rfl
    subst this
    refine ⟨bs [45], false, Ev.bind a (Ev.bind (lists_none _ _ _) (Ev.now _)), Ev.bind b (Ev.bind (v := noB) (qfuz.v ?_) (Ev.now _))⟩
    simp only [S]
    exact Ev.now _
  | true =>
    refine ⟨bL (rowsT 47 44 L), true, Ev.bind a (Ev.bind (impl_lists_eq (h1 rfl) hl (fun r hr => by have := hL r hr; exact ⟨by omega, this.2⟩) _) (Ev.now _)), Ev.bind b (Ev.bind (spec_coParts_eq hl hL) (Ev.now _))⟩
section
variable {D : List Wk} {n : Int} (hD : dOk D n = true)
include hD
theorem dlen : 1 ≤ D.length ∧ D.length ≤ 8 := (listOk_iff.1 (dOk_iff.1 hD).1).1
theorem dmem : ∀ w ∈ D, wOk w = true := (listOk_iff.1 (dOk_iff.1 hD).1).2
theorem act_walkers {X : List Wk} (hX : listOk 8 wOk X = true) : Act (bs [119, 97, 108, 107, 101, 114, 115]) (X, (0, (0, (0, (0, ([], ([], []))))))) D n := by
  have hl := dlen hD
  have hn := (dOk_iff.1 hD).2
  have e : dOk X n = true := dOk_iff.2 ⟨hX, hn⟩
  refine act_change (X := X) (m := n) hD (qckz.v (by simp (disch := omega) only [↓reduceIte, BQ, Nat.reduceMod, Nat.reduceBEq, LN, S]; exact chg_eq _ _ _)) ⟨_, qcaz.v (by simp (disch := omega) only [↓reduceIte, BQ, Nat.reduceMod, Nat.reduceBEq, LN, S]; exact Ev.bind (lay_eq D X n (X, (0, (0, (0, (0, ([], ([], [])))))))) (Ev.now _)), ?_⟩ (fun Z h line hr => qhcz.v (Ev.bind hr (by simp (disch := omega) only [↓reduceIte, BQ, Nat.reduceMod, Nat.reduceBEq, LN, S]; exact Ev.bind h (Ev.now _))))
  rw [if_pos hX, if_pos e]
theorem concat_eq (X : List Wk) (hX : X.length ≤ 1000) : Ev (fun k => qbez.f k [D, X]) (D ++ X) := by
  have hl := dlen hD
  have w1 : W (0 + 1) = 1 := by decide
  have w2 : W (1 + 1) = 2 := by decide
  have x0 : ∀ {β : Type} (x : Option β), ix 0 [D, X] x = x := fun x => S.2.1 (by decide) (show (0 : Int) < 2 by decide)
  have x1 : ∀ {β : Type} (x : Option β), ix 1 [D, X] x = x := fun x => S.2.1 (by decide) (show (1 : Int) < 2 by decide)
  have hln : ln [D, X] = 2 := rfl
  refine qbez.v (qbez.v0 ?_)
  simp only [w1, x0, hln, LN]
  simp (disch := omega) only [S]
  refine qbez.v0 ?_
  simp only [w2, x1, LN]
  simp (disch := omega) only [S]
  refine qbez.v0 ?_
  simp only [hln]
  simp (disch := omega) only [S]
  refine qbez.v1 ?_
  simp only [w1, x0, LN]
  simp (disch := omega) only [S, LN]
  refine qbez.v1 ?_
  simp only [w2, x1, LN]
  simp (disch := omega) only [S]
  refine qbez.v1 ?_
  simp (disch := omega) only [S]
  exact Ev.now _
theorem act_add {X : List Wk} (hX : listOk 8 wOk X = true) : Act (bs [97, 100, 100]) (X, (0, (0, (0, (0, ([], ([], []))))))) D n := by
  have hl := dlen hD
  have hn := (dOk_iff.1 hD).2
  have hx := (listOk_iff.1 hX).1
  have e : dOk (D ++ X) n = listOk 8 wOk (D ++ X) := by unfold dOk; rw [decide_eq_true hn, Bool.and_true]
  refine act_change (X := D ++ X) (m := n) hD (qckz.v (by simp (disch := omega) only [↓reduceIte, BQ, Nat.reduceMod, Nat.reduceBEq, LN, S]; exact Ev.bind (concat_eq hD X (by omega)) (chg_eq _ _ _))) ⟨_, qcaz.v (by simp (disch := omega) only [↓reduceIte, BQ, Nat.reduceMod, Nat.reduceBEq, LN, S]; exact Ev.bind (lay_eq D (D ++ X) n (X, (0, (0, (0, (0, ([], ([], [])))))))) (Ev.now _)), ?_⟩ (fun Z h line hr => qhcz.v (Ev.bind hr (by simp (disch := omega) only [↓reduceIte, BQ, Nat.reduceMod, Nat.reduceBEq, LN, S]; exact Ev.bind h (Ev.now _))))
  rw [e]
  split <;> rfl
theorem act_ring {m : Nat} (hm : m ≤ 999999) : Act (bs [114, 105, 110, 103]) ([], (0, (0, (0, (0, ([], ([], [(m : Int)]))))))) D n := by
  have hl := dlen hD
  have hn := (dOk_iff.1 hD).2
  by_cases hm1 : 1 ≤ (m : Int) ∧ (m : Int) ≤ 1000
  · have e : dOk D (m : Int) = true := dOk_iff.2 ⟨(dOk_iff.1 hD).1, hm1⟩
    refine act_change (X := D) (m := (m : Int)) hD (qckz.v (by simp (disch := omega) only [↓reduceIte, BQ, Nat.reduceMod, Nat.reduceBEq, LN, S]; exact chg_eq _ _ _)) ⟨_, qcaz.v (by simp (disch := omega) only [↓reduceIte, BQ, Nat.reduceMod, Nat.reduceBEq, LN, S, spec_l1In_eq, decide_eq_true hm1]; exact Ev.bind (spec_meText_eq (dOk_iff.1 hD).1) (Ev.now _)), ?_⟩ (fun Z h line hr => qhcz.v (Ev.bind hr (by simp (disch := omega) only [↓reduceIte, BQ, Nat.reduceMod, Nat.reduceBEq, LN, S]; exact Ev.bind h (Ev.now _))))
    rw [if_pos e]
  · have e : ¬ dOk D (m : Int) = true := fun h => hm1 (dOk_iff.1 h).2
    refine act_change (X := D) (m := (m : Int)) hD (qckz.v (by simp (disch := omega) only [↓reduceIte, BQ, Nat.reduceMod, Nat.reduceBEq, LN, S]; exact chg_eq _ _ _)) ⟨_, qcaz.v (by simp (disch := omega) only [↓reduceIte, BQ, Nat.reduceMod, Nat.reduceBEq, LN, S, spec_l1In_eq, decide_eq_false hm1]; exact Ev.now _), ?_⟩ (fun Z h line hr => qhcz.v (Ev.bind hr (by simp (disch := omega) only [↓reduceIte, BQ, Nat.reduceMod, Nat.reduceBEq, LN, S]; exact Ev.bind h (Ev.now _))))
    rw [if_neg e]; rfl
theorem has_eq (m : Nat) : qbqz.f D n (m : Int) = some (decide (m < D.length)) := by
  have hl := dlen hD
  unfold qbqz.f
  simp (disch := omega) only [S, impl_within_eq]
  by_cases h : m < D.length
  · rw [decide_eq_true h, decide_eq_true (by omega)]
  · rw [decide_eq_false h, decide_eq_false (by omega)]
theorem clone_eq : qbfz.f D = some D := by
  have hl := dlen hD
  unfold qbfz.f
  exact S.1 (by omega)
theorem act_turn {m : Nat} (hm : m ≤ 999999) : Act (bs [116, 117, 114, 110]) ([], (0, (0, (0, (0, ([], ([], [(m : Int)]))))))) D n := by
  have hl := dlen hD
  have hn := (dOk_iff.1 hD).2
  by_cases hm1 : m < D.length
  · have hw := wOk_iff.1 (dmem hD _ (getD_mem (z := (0, 0)) hm1))
    have w1 : (D.getD m (0, 0)).2 * (-1) = -(D.getD m (0, 0)).2 := by omega
    have w2 : 0 - (D.getD m (0, 0)).2 = -(D.getD m (0, 0)).2 := by omega
    have hok : listOk 8 wOk (D.set m ((D.getD m (0, 0)).1, -(D.getD m (0, 0)).2)) = true := listOk_iff.2 ⟨by rw [List.length_set]; exact hl, fun w h => by
      rcases List.mem_or_eq_of_mem_set h with h | h
      · exact dmem hD w h
      · rw [h]; exact wOk_iff.2 ⟨hw.1, by simp only []; omega⟩⟩
    have e : dOk (D.set m ((D.getD m (0, 0)).1, -(D.getD m (0, 0)).2)) n = true := dOk_iff.2 ⟨hok, hn⟩
    refine act_change (X := D.set m ((D.getD m (0, 0)).1, -(D.getD m (0, 0)).2)) (m := n) hD (qckz.v (by simp (disch := omega) only [↓reduceIte, BQ, Nat.reduceMod, Nat.reduceBEq, LN, S, w1, has_eq hD, clone_eq hD, decide_eq_true hm1]; exact chg_eq _ _ _)) ⟨_, qcaz.v (by simp (disch := omega) only [↓reduceIte, BQ, Nat.reduceMod, Nat.reduceBEq, LN, S, w2]; exact Ev.bind (lay_eq D _ n ([], (0, (0, (0, (0, ([], ([], [(m : Int)])))))))) (Ev.now _)), ?_⟩ (fun Z h line hr => qhcz.v (Ev.bind hr (by simp (disch := omega) only [↓reduceIte, BQ, Nat.reduceMod, Nat.reduceBEq, LN, S]; exact Ev.bind h (Ev.now _))))
    rw [if_pos e, if_pos hok]
  · refine act_no hD (R := ((D, n), (bs [], (false, _)))) (qckz.v (by simp (disch := omega) only [↓reduceIte, BQ, Nat.reduceMod, Nat.reduceBEq, LN, S, has_eq hD, decide_eq_false hm1]; exact Ev.now _)) rfl (fun line hr => qhcz.v (Ev.bind hr (by simp (disch := omega) only [↓reduceIte, BQ, Nat.reduceMod, Nat.reduceBEq, LN, S]; exact Ev.bind (v := (noB, (D, (n, _)))) (qcaz.v (by simp (disch := omega) only [↓reduceIte, BQ, Nat.reduceMod, Nat.reduceBEq, LN, S]; exact Ev.now _)) (Ev.now _))))
theorem act_drop {m : Nat} (hm : m ≤ 999999) : Act (bs [100, 114, 111, 112]) ([], (0, (0, (0, (0, ([], ([], [(m : Int)]))))))) D n := by
  have hl := dlen hD
  have hn := (dOk_iff.1 hD).2
  by_cases hm1 : m < D.length
  · have lt : (D.drop (m + 1)).take (D.length - (m + 1)) = D.drop (m + 1) := List.take_of_length_le (by simp)
    have e : dOk (D.take m ++ D.drop (m + 1)) n = listOk 8 wOk (D.take m ++ D.drop (m + 1)) := by unfold dOk; rw [decide_eq_true hn, Bool.and_true]
    refine act_change (X := D.take m ++ D.drop (m + 1)) (m := n) hD (qckz.v (by simp (disch := omega) only [↓reduceIte, BQ, Nat.reduceMod, Nat.reduceBEq, LN, S, has_eq hD, clone_eq hD, decide_eq_true hm1]; exact chg_eq _ _ _)) ⟨_, qcaz.v (by simp (disch := omega) only [↓reduceIte, BQ, Nat.reduceMod, Nat.reduceBEq, LN, S, List.length_take, List.length_drop]; rw [lt]; exact Ev.bind (lay_eq D _ n ([], (0, (0, (0, (0, ([], ([], [(m : Int)])))))))) (Ev.now _)), ?_⟩ (fun Z h line hr => qhcz.v (Ev.bind hr (by simp (disch := omega) only [↓reduceIte, BQ, Nat.reduceMod, Nat.reduceBEq, LN, S]; exact Ev.bind h (Ev.now _))))
    rw [e]
    split <;> rfl
  · refine act_no hD (R := ((D, n), (bs [], (false, _)))) (qckz.v (by simp (disch := omega) only [↓reduceIte, BQ, Nat.reduceMod, Nat.reduceBEq, LN, S, has_eq hD, decide_eq_false hm1]; exact Ev.now _)) rfl (fun line hr => qhcz.v (Ev.bind hr (by simp (disch := omega) only [↓reduceIte, BQ, Nat.reduceMod, Nat.reduceBEq, LN, S]; exact Ev.bind (v := (noB, (D, (n, _)))) (qcaz.v (by simp (disch := omega) only [↓reduceIte, BQ, Nat.reduceMod, Nat.reduceBEq, LN, S]; exact Ev.now _)) (Ev.now _))))
theorem act_show  : Act (bs [115, 104, 111, 119]) ([], (0, (0, (0, (0, ([], ([], []))))))) D n := by
  have hl := dlen hD
  have hn := (dOk_iff.1 hD).2
  refine ⟨((D, n), bL (wkT D)), hD, ⟨_, qckz.v (by simp (disch := omega) only [↓reduceIte, BQ, Nat.reduceMod, Nat.reduceBEq, LN, S]; exact chg_eq _ _ _), by unfold fin; rw [if_pos hD]; rfl⟩, fun line hr => qhcz.v (Ev.bind hr (by simp (disch := omega) only [↓reduceIte, BQ, Nat.reduceMod, Nat.reduceBEq, LN, S]; exact Ev.bind (qchz.v (by simp (disch := omega) only [↓reduceIte, BQ, Nat.reduceMod, Nat.reduceBEq, LN, S]; exact Ev.bind (spec_meText_eq (dOk_iff.1 hD).1) (Ev.now _))) (Ev.now _)))⟩
theorem act_start  : Act (bs [115, 116, 97, 114, 116]) ([], (0, (0, (0, (0, ([], ([], []))))))) D n := by
  have hl := dlen hD
  have hn := (dOk_iff.1 hD).2
  refine act_ask hD (fun r h => qckz.v (by simp (disch := omega) only [↓reduceIte, BQ, Nat.reduceMod, Nat.reduceBEq, LN, S]; exact Ev.bind h (Ev.now _))) (fun Z h line hr => qhcz.v (Ev.bind hr (by simp (disch := omega) only [↓reduceIte, BQ, Nat.reduceMod, Nat.reduceBEq, LN, S]; exact Ev.bind h (Ev.now _)))) ?_
  obtain ⟨T, ok, x, y⟩ := part_of D n ([], (0, (0, (0, (0, ([], ([], []))))))) (AllAtStart_same (dOk_iff.1 hD).1 hn)
  exact ⟨T, ok, qewz.v (by simp (disch := omega) only [↓reduceIte, BQ, Nat.reduceMod, Nat.reduceBEq, LN, S]; exact x), qchz.v (by simp (disch := omega) only [↓reduceIte, BQ, Nat.reduceMod, Nat.reduceBEq, LN, S]; exact y)⟩
theorem act_lead  : Act (bs [108, 101, 97, 100]) ([], (0, (0, (0, (0, ([], ([], []))))))) D n := by
  have hl := dlen hD
  have hn := (dOk_iff.1 hD).2
  obtain ⟨L, l1, l2, l3, l4⟩ := LeadersOf_same (dOk_iff.1 hD).1
  refine act_ask hD (fun r h => qckz.v (by simp (disch := omega) only [↓reduceIte, BQ, Nat.reduceMod, Nat.reduceBEq, LN, S]; exact Ev.bind h (Ev.now _))) (fun Z h line hr => qhcz.v (Ev.bind hr (by simp (disch := omega) only [↓reduceIte, BQ, Nat.reduceMod, Nat.reduceBEq, LN, S]; exact Ev.bind h (Ev.now _)))) ?_
  obtain ⟨T, ok, x, y⟩ := text_of D n ([], (0, (0, (0, (0, ([], ([], []))))))) l1 l2 (by omega) l4
  exact ⟨T, ok, qewz.v (by simp (disch := omega) only [↓reduceIte, BQ, Nat.reduceMod, Nat.reduceBEq, LN, S]; exact x), qchz.v (by simp (disch := omega) only [↓reduceIte, BQ, Nat.reduceMod, Nat.reduceBEq, LN, S]; exact y)⟩
theorem act_last  : Act (bs [108, 97, 115, 116]) ([], (0, (0, (0, (0, ([], ([], []))))))) D n := by
  have hl := dlen hD
  have hn := (dOk_iff.1 hD).2
  obtain ⟨L, l1, l2, l3, l4⟩ := LastOrder_same (dOk_iff.1 hD).1
  refine act_ask hD (fun r h => qckz.v (by simp (disch := omega) only [↓reduceIte, BQ, Nat.reduceMod, Nat.reduceBEq, LN, S]; exact Ev.bind h (Ev.now _))) (fun Z h line hr => qhcz.v (Ev.bind hr (by simp (disch := omega) only [↓reduceIte, BQ, Nat.reduceMod, Nat.reduceBEq, LN, S]; exact Ev.bind h (Ev.now _)))) ?_
  obtain ⟨T, ok, x, y⟩ := text_of D n ([], (0, (0, (0, (0, ([], ([], []))))))) l1 l2 (by omega) l4
  exact ⟨T, ok, qewz.v (by simp (disch := omega) only [↓reduceIte, BQ, Nat.reduceMod, Nat.reduceBEq, LN, S]; exact x), qchz.v (by simp (disch := omega) only [↓reduceIte, BQ, Nat.reduceMod, Nat.reduceBEq, LN, S]; exact y)⟩
theorem act_at {m : Nat} (hm : m ≤ 999999) : Act (bs [97, 116]) ([], (0, (0, (0, (0, ([], ([], [(m : Int)]))))))) D n := by
  have hl := dlen hD
  have hn := (dOk_iff.1 hD).2
  obtain ⟨L, l1, l2, l3, l4⟩ := WalkersAt_same (dOk_iff.1 hD).1 (n := (m : Int)) (d := 1) (by omega) (by omega)
  refine act_ask hD (fun r h => qckz.v (by simp (disch := omega) only [↓reduceIte, BQ, Nat.reduceMod, Nat.reduceBEq, LN, S]; exact Ev.bind h (Ev.now _))) (fun Z h line hr => qhcz.v (Ev.bind hr (by simp (disch := omega) only [↓reduceIte, BQ, Nat.reduceMod, Nat.reduceBEq, LN, S]; exact Ev.bind h (Ev.now _)))) ?_
  obtain ⟨T, ok, x, y⟩ := text_of D n ([], (0, (0, (0, (0, ([], ([], [(m : Int)]))))))) l1 l2 (by omega) l4
  exact ⟨T, ok, qewz.v (by simp (disch := omega) only [↓reduceIte, BQ, Nat.reduceMod, Nat.reduceBEq, LN, S]; exact x), qchz.v (by simp (disch := omega) only [↓reduceIte, BQ, Nat.reduceMod, Nat.reduceBEq, LN, S]; exact y)⟩
theorem act_pairs  : Act (bs [112, 97, 105, 114, 115]) ([], (0, (0, (0, (0, ([], ([], []))))))) D n := by
  have hl := dlen hD
  have hn := (dOk_iff.1 hD).2
  obtain ⟨c, c1, c2, c3, c4⟩ := CountMeetings_same (dOk_iff.1 hD).1
  refine act_ask hD (fun r h => qckz.v (by simp (disch := omega) only [↓reduceIte, BQ, Nat.reduceMod, Nat.reduceBEq, LN, S]; exact Ev.bind h (Ev.now _))) (fun Z h line hr => qhcz.v (Ev.bind hr (by simp (disch := omega) only [↓reduceIte, BQ, Nat.reduceMod, Nat.reduceBEq, LN, S]; exact Ev.bind h (Ev.now _)))) ⟨bL (Lib.itoa c), true, qewz.v (by simp (disch := omega) only [↓reduceIte, BQ, Nat.reduceMod, Nat.reduceBEq, LN, S]; exact Ev.bind c1 (by simp only [impl_number_eq c3, S]; exact Ev.now _)), qchz.v (by simp (disch := omega) only [↓reduceIte, BQ, Nat.reduceMod, Nat.reduceBEq, LN, S]; exact Ev.bind c2 (Ev.bind (spec_coNumber_eq c4 c3 true) (Ev.now _)))⟩
theorem act_first  : Act (bs [102, 105, 114, 115, 116]) ([], (0, (0, (0, (0, ([], ([], []))))))) D n := by
  have hl := dlen hD
  have hn := (dOk_iff.1 hD).2
  obtain ⟨R, r1, r2, r3, r4⟩ := AllMeetings_same (dOk_iff.1 hD).1
  refine act_ask hD (fun r h => qckz.v (by simp (disch := omega) only [↓reduceIte, BQ, Nat.reduceMod, Nat.reduceBEq, LN, S]; exact Ev.bind h (Ev.now _))) (fun Z h line hr => qhcz.v (Ev.bind hr (by simp (disch := omega) only [↓reduceIte, BQ, Nat.reduceMod, Nat.reduceBEq, LN, S]; exact Ev.bind h (Ev.now _)))) ?_
  cases R with
  | nil => exact ⟨bs [], false, qewz.v (by simp (disch := omega) only [↓reduceIte, BQ, Nat.reduceMod, Nat.reduceBEq, LN, S]; exact Ev.bind r1 (by simp (disch := omega) only [S, LN]; exact Ev.now _)), qchz.v (by simp (disch := omega) only [↓reduceIte, BQ, Nat.reduceMod, Nat.reduceBEq, LN, S]; exact Ev.bind r2 (by simp (disch := omega) only [S, LN]; exact Ev.now _))⟩
  | cons e R =>
    obtain ⟨i, j, x, y, rfl, hi, hj, _⟩ := r4 e (by simp)
    have hq : ∀ z ∈ [i, j], i64 z := fun z hz => by
      unfold i64
      simp only [List.mem_cons, List.not_mem_nil, or_false] at hz
      omega
    have tk : List.take 2 [i, j, x, y] = [i, j] := rfl
    refine ⟨bL (numsT [i, j]), true, qewz.v ?_, qchz.v ?_⟩
    · simp (disch := omega) only [↓reduceIte, BQ, Nat.reduceMod, Nat.reduceBEq, LN, S]
      refine Ev.bind r1 ?_
      simp (disch := omega) only [S, LN, tk]
      exact Ev.bind (impl_numbers_eq (by simp) hq true) (Ev.now _)
    · simp (disch := omega) only [↓reduceIte, BQ, Nat.reduceMod, Nat.reduceBEq, LN, S]
      refine Ev.bind r2 ?_
      simp (disch := omega) only [S, LN, tk]
      exact Ev.bind (spec_coText_eq (by simp) hq true) (Ev.now _)
theorem act_meet {m m2 : Nat} (hm : m ≤ 999999) (hm2 : m2 ≤ 999999) : Act (bs [109, 101, 101, 116]) ([], (0, (0, (0, (0, ([], ([], [(m : Int), (m2 : Int)]))))))) D n := by
  have hl := dlen hD
  have hn := (dOk_iff.1 hD).2
  refine act_ask hD (fun r h => qckz.v (by simp (disch := omega) only [↓reduceIte, BQ, Nat.reduceMod, Nat.reduceBEq, LN, S]; exact Ev.bind h (Ev.now _))) (fun Z h line hr => qhcz.v (Ev.bind hr (by simp (disch := omega) only [↓reduceIte, BQ, Nat.reduceMod, Nat.reduceBEq, LN, S]; exact Ev.bind h (Ev.now _)))) ?_
  by_cases q1 : m < D.length
  · by_cases q2 : m2 < D.length
    · obtain ⟨T, ok, x, y⟩ := part_of2 D n ([], (0, (0, (0, (0, ([], ([], [(m : Int), (m2 : Int)]))))))) (MeetingTime_same (dmem hD _ (getD_mem (z := (0, 0)) q1)) (dmem hD _ (getD_mem (z := (0, 0)) q2)))
      refine ⟨T, ok, qewz.v (by simp (disch := omega) only [↓reduceIte, BQ, Nat.reduceMod, Nat.reduceBEq, LN, S, has_eq hD, decide_eq_true q1, decide_eq_true q2]; exact Ev.bind (qcez.v (by simp (disch := omega) only [↓reduceIte, BQ, Nat.reduceMod, Nat.reduceBEq, LN, S]; exact x)) (Ev.now _)), qchz.v (by simp (disch := omega) only [↓reduceIte, BQ, Nat.reduceMod, Nat.reduceBEq, LN, S]; exact Ev.bind (qdcz.v (by simp (disch := omega) only [↓reduceIte, BQ, Nat.reduceMod, Nat.reduceBEq, LN, S]; exact y)) (Ev.now _))⟩
    · exact ⟨bs [], false, qewz.v (by simp (disch := omega) only [↓reduceIte, BQ, Nat.reduceMod, Nat.reduceBEq, LN, S, has_eq hD, decide_eq_true q1, decide_eq_false q2]; exact Ev.now _), qchz.v (by simp (disch := omega) only [↓reduceIte, BQ, Nat.reduceMod, Nat.reduceBEq, LN, S]; exact Ev.bind (v := (noB, (D, (n, _)))) (qdcz.v (by simp (disch := omega) only [↓reduceIte, BQ, Nat.reduceMod, Nat.reduceBEq, LN, S]; exact Ev.now _)) (Ev.now _))⟩
  · exact ⟨bs [], false, qewz.v (by simp (disch := omega) only [↓reduceIte, BQ, Nat.reduceMod, Nat.reduceBEq, LN, S, has_eq hD, decide_eq_false q1]; exact Ev.now _), qchz.v (by simp (disch := omega) only [↓reduceIte, BQ, Nat.reduceMod, Nat.reduceBEq, LN, S]; exact Ev.bind (v := (noB, (D, (n, _)))) (qdcz.v (by simp (disch := omega) only [↓reduceIte, BQ, Nat.reduceMod, Nat.reduceBEq, LN, S]; exact Ev.now _)) (Ev.now _))⟩
theorem act_where {m m2 : Nat} (hm : m ≤ 999999) (hm2 : m2 ≤ 999999) : Act (bs [119, 104, 101, 114, 101]) ([], (0, (0, (0, (0, ([], ([], [(m : Int), (m2 : Int)]))))))) D n := by
  have hl := dlen hD
  have hn := (dOk_iff.1 hD).2
  refine act_ask hD (fun r h => qckz.v (by simp (disch := omega) only [↓reduceIte, BQ, Nat.reduceMod, Nat.reduceBEq, LN, S]; exact Ev.bind h (Ev.now _))) (fun Z h line hr => qhcz.v (Ev.bind hr (by simp (disch := omega) only [↓reduceIte, BQ, Nat.reduceMod, Nat.reduceBEq, LN, S]; exact Ev.bind h (Ev.now _)))) ?_
  by_cases q1 : m < D.length
  · by_cases q2 : m2 < D.length
    · obtain ⟨T, ok, x, y⟩ := part_of2 D n ([], (0, (0, (0, (0, ([], ([], [(m : Int), (m2 : Int)]))))))) (MeetingPlace_same (dmem hD _ (getD_mem (z := (0, 0)) q1)) (dmem hD _ (getD_mem (z := (0, 0)) q2)))
      refine ⟨T, ok, qewz.v (by simp (disch := omega) only [↓reduceIte, BQ, Nat.reduceMod, Nat.reduceBEq, LN, S, has_eq hD, decide_eq_true q1, decide_eq_true q2]; exact Ev.bind (qcez.v (by simp (disch := omega) only [↓reduceIte, BQ, Nat.reduceMod, Nat.reduceBEq, LN, S]; exact x)) (Ev.now _)), qchz.v (by simp (disch := omega) only [↓reduceIte, BQ, Nat.reduceMod, Nat.reduceBEq, LN, S]; exact Ev.bind (qdcz.v (by simp (disch := omega) only [↓reduceIte, BQ, Nat.reduceMod, Nat.reduceBEq, LN, S]; exact y)) (Ev.now _))⟩
    · exact ⟨bs [], false, qewz.v (by simp (disch := omega) only [↓reduceIte, BQ, Nat.reduceMod, Nat.reduceBEq, LN, S, has_eq hD, decide_eq_true q1, decide_eq_false q2]; exact Ev.now _), qchz.v (by simp (disch := omega) only [↓reduceIte, BQ, Nat.reduceMod, Nat.reduceBEq, LN, S]; exact Ev.bind (v := (noB, (D, (n, _)))) (qdcz.v (by simp (disch := omega) only [↓reduceIte, BQ, Nat.reduceMod, Nat.reduceBEq, LN, S]; exact Ev.now _)) (Ev.now _))⟩
  · exact ⟨bs [], false, qewz.v (by simp (disch := omega) only [↓reduceIte, BQ, Nat.reduceMod, Nat.reduceBEq, LN, S, has_eq hD, decide_eq_false q1]; exact Ev.now _), qchz.v (by simp (disch := omega) only [↓reduceIte, BQ, Nat.reduceMod, Nat.reduceBEq, LN, S]; exact Ev.bind (v := (noB, (D, (n, _)))) (qdcz.v (by simp (disch := omega) only [↓reduceIte, BQ, Nat.reduceMod, Nat.reduceBEq, LN, S]; exact Ev.now _)) (Ev.now _))⟩
theorem act_around {m m2 : Nat} (hm : m ≤ 999999) (hm2 : m2 ≤ 999999) : Act (bs [97, 114, 111, 117, 110, 100]) ([], (0, (0, (0, (0, ([], ([], [(m : Int), (m2 : Int)]))))))) D n := by
  have hl := dlen hD
  have hn := (dOk_iff.1 hD).2
  refine act_ask hD (fun r h => qckz.v (by simp (disch := omega) only [↓reduceIte, BQ, Nat.reduceMod, Nat.reduceBEq, LN, S]; exact Ev.bind h (Ev.now _))) (fun Z h line hr => qhcz.v (Ev.bind hr (by simp (disch := omega) only [↓reduceIte, BQ, Nat.reduceMod, Nat.reduceBEq, LN, S]; exact Ev.bind h (Ev.now _)))) ?_
  by_cases q1 : m < D.length
  · by_cases q2 : m2 < D.length
    · obtain ⟨T, ok, x, y⟩ := part_of2 D n ([], (0, (0, (0, (0, ([], ([], [(m : Int), (m2 : Int)]))))))) (RingTime_same hn (dmem hD _ (getD_mem (z := (0, 0)) q1)) (dmem hD _ (getD_mem (z := (0, 0)) q2)))
      refine ⟨T, ok, qewz.v (by simp (disch := omega) only [↓reduceIte, BQ, Nat.reduceMod, Nat.reduceBEq, LN, S, has_eq hD, decide_eq_true q1, decide_eq_true q2]; exact Ev.bind (qcez.v (by simp (disch := omega) only [↓reduceIte, BQ, Nat.reduceMod, Nat.reduceBEq, LN, S]; exact x)) (Ev.now _)), qchz.v (by simp (disch := omega) only [↓reduceIte, BQ, Nat.reduceMod, Nat.reduceBEq, LN, S]; exact Ev.bind (qdcz.v (by simp (disch := omega) only [↓reduceIte, BQ, Nat.reduceMod, Nat.reduceBEq, LN, S]; exact y)) (Ev.now _))⟩
    · exact ⟨bs [], false, qewz.v (by simp (disch := omega) only [↓reduceIte, BQ, Nat.reduceMod, Nat.reduceBEq, LN, S, has_eq hD, decide_eq_true q1, decide_eq_false q2]; exact Ev.now _), qchz.v (by simp (disch := omega) only [↓reduceIte, BQ, Nat.reduceMod, Nat.reduceBEq, LN, S]; exact Ev.bind (v := (noB, (D, (n, _)))) (qdcz.v (by simp (disch := omega) only [↓reduceIte, BQ, Nat.reduceMod, Nat.reduceBEq, LN, S]; exact Ev.now _)) (Ev.now _))⟩
  · exact ⟨bs [], false, qewz.v (by simp (disch := omega) only [↓reduceIte, BQ, Nat.reduceMod, Nat.reduceBEq, LN, S, has_eq hD, decide_eq_false q1]; exact Ev.now _), qchz.v (by simp (disch := omega) only [↓reduceIte, BQ, Nat.reduceMod, Nat.reduceBEq, LN, S]; exact Ev.bind (v := (noB, (D, (n, _)))) (qdcz.v (by simp (disch := omega) only [↓reduceIte, BQ, Nat.reduceMod, Nat.reduceBEq, LN, S]; exact Ev.now _)) (Ev.now _))⟩
theorem act_gap {m m2 : Nat} (hm : m ≤ 999999) (hm2 : m2 ≤ 999999) : Act (bs [103, 97, 112]) ([], (0, (0, (0, (0, ([], ([], [(m : Int), (m2 : Int)]))))))) D n := by
  have hl := dlen hD
  have hn := (dOk_iff.1 hD).2
  refine act_ask hD (fun r h => qckz.v (by simp (disch := omega) only [↓reduceIte, BQ, Nat.reduceMod, Nat.reduceBEq, LN, S]; exact Ev.bind h (Ev.now _))) (fun Z h line hr => qhcz.v (Ev.bind hr (by simp (disch := omega) only [↓reduceIte, BQ, Nat.reduceMod, Nat.reduceBEq, LN, S]; exact Ev.bind h (Ev.now _)))) ?_
  by_cases q1 : m < D.length
  · by_cases q2 : m2 < D.length
    · obtain ⟨T, ok, x, y⟩ := part_of2 D n ([], (0, (0, (0, (0, ([], ([], [(m : Int), (m2 : Int)]))))))) (RingGap_same hn (dmem hD _ (getD_mem (z := (0, 0)) q1)) (dmem hD _ (getD_mem (z := (0, 0)) q2)))
      refine ⟨T, ok, qewz.v (by simp (disch := omega) only [↓reduceIte, BQ, Nat.reduceMod, Nat.reduceBEq, LN, S, has_eq hD, decide_eq_true q1, decide_eq_true q2]; exact Ev.bind (qcez.v (by simp (disch := omega) only [↓reduceIte, BQ, Nat.reduceMod, Nat.reduceBEq, LN, S]; exact x)) (Ev.now _)), qchz.v (by simp (disch := omega) only [↓reduceIte, BQ, Nat.reduceMod, Nat.reduceBEq, LN, S]; exact Ev.bind (qdcz.v (by simp (disch := omega) only [↓reduceIte, BQ, Nat.reduceMod, Nat.reduceBEq, LN, S]; exact y)) (Ev.now _))⟩
    · exact ⟨bs [], false, qewz.v (by simp (disch := omega) only [↓reduceIte, BQ, Nat.reduceMod, Nat.reduceBEq, LN, S, has_eq hD, decide_eq_true q1, decide_eq_false q2]; exact Ev.now _), qchz.v (by simp (disch := omega) only [↓reduceIte, BQ, Nat.reduceMod, Nat.reduceBEq, LN, S]; exact Ev.bind (v := (noB, (D, (n, _)))) (qdcz.v (by simp (disch := omega) only [↓reduceIte, BQ, Nat.reduceMod, Nat.reduceBEq, LN, S]; exact Ev.now _)) (Ev.now _))⟩
  · exact ⟨bs [], false, qewz.v (by simp (disch := omega) only [↓reduceIte, BQ, Nat.reduceMod, Nat.reduceBEq, LN, S, has_eq hD, decide_eq_false q1]; exact Ev.now _), qchz.v (by simp (disch := omega) only [↓reduceIte, BQ, Nat.reduceMod, Nat.reduceBEq, LN, S]; exact Ev.bind (v := (noB, (D, (n, _)))) (qdcz.v (by simp (disch := omega) only [↓reduceIte, BQ, Nat.reduceMod, Nat.reduceBEq, LN, S]; exact Ev.now _)) (Ev.now _))⟩
theorem act_places {m m2 : Nat} (hm : m ≤ 999999) (hm2 : m2 ≤ 999999) : Act (bs [112, 108, 97, 99, 101, 115]) ([], (0, (0, (0, (0, ([], ([], [(m : Int), (m2 : Int)]))))))) D n := by
  have hl := dlen hD
  have hn := (dOk_iff.1 hD).2
  refine act_ask hD (fun r h => qckz.v (by simp (disch := omega) only [↓reduceIte, BQ, Nat.reduceMod, Nat.reduceBEq, LN, S]; exact Ev.bind h (Ev.now _))) (fun Z h line hr => qhcz.v (Ev.bind hr (by simp (disch := omega) only [↓reduceIte, BQ, Nat.reduceMod, Nat.reduceBEq, LN, S]; exact Ev.bind h (Ev.now _)))) ?_
  by_cases q1 : m < D.length
  · by_cases q2 : m2 < D.length
    · obtain ⟨rr, s1, s2, s3, s4, s5, s6⟩ := RingPlaces_same hn (dmem hD _ (getD_mem (z := (0, 0)) q1)) (dmem hD _ (getD_mem (z := (0, 0)) q2))
      obtain ⟨T, ok, x, y⟩ := places_of D n ([], (0, (0, (0, (0, ([], ([], [(m : Int), (m2 : Int)]))))))) s1 s2 s3 s4 s5 s6
      refine ⟨T, ok, qewz.v (by simp (disch := omega) only [↓reduceIte, BQ, Nat.reduceMod, Nat.reduceBEq, LN, S, has_eq hD, decide_eq_true q1, decide_eq_true q2]; exact Ev.bind (qcez.v (by simp (disch := omega) only [↓reduceIte, BQ, Nat.reduceMod, Nat.reduceBEq, LN, S]; exact x)) (Ev.now _)), qchz.v (by simp (disch := omega) only [↓reduceIte, BQ, Nat.reduceMod, Nat.reduceBEq, LN, S]; exact Ev.bind (qdcz.v (by simp (disch := omega) only [↓reduceIte, BQ, Nat.reduceMod, Nat.reduceBEq, LN, S]; exact y)) (Ev.now _))⟩
    · exact ⟨bs [], false, qewz.v (by simp (disch := omega) only [↓reduceIte, BQ, Nat.reduceMod, Nat.reduceBEq, LN, S, has_eq hD, decide_eq_true q1, decide_eq_false q2]; exact Ev.now _), qchz.v (by simp (disch := omega) only [↓reduceIte, BQ, Nat.reduceMod, Nat.reduceBEq, LN, S]; exact Ev.bind (v := (noB, (D, (n, _)))) (qdcz.v (by simp (disch := omega) only [↓reduceIte, BQ, Nat.reduceMod, Nat.reduceBEq, LN, S]; exact Ev.now _)) (Ev.now _))⟩
  · exact ⟨bs [], false, qewz.v (by simp (disch := omega) only [↓reduceIte, BQ, Nat.reduceMod, Nat.reduceBEq, LN, S, has_eq hD, decide_eq_false q1]; exact Ev.now _), qchz.v (by simp (disch := omega) only [↓reduceIte, BQ, Nat.reduceMod, Nat.reduceBEq, LN, S]; exact Ev.bind (v := (noB, (D, (n, _)))) (qdcz.v (by simp (disch := omega) only [↓reduceIte, BQ, Nat.reduceMod, Nat.reduceBEq, LN, S]; exact Ev.now _)) (Ev.now _))⟩
theorem act_dog {a l r d : Int} : Act (bs [100, 111, 103]) ([], (a, (l, (r, (d, ([], ([], []))))))) D n := by
  have hl := dlen hD
  have hn := (dOk_iff.1 hD).2
  refine act_ask hD (fun r h => qckz.v (by simp (disch := omega) only [↓reduceIte, BQ, Nat.reduceMod, Nat.reduceBEq, LN, S]; exact Ev.bind h (Ev.now _))) (fun Z h line hr => qhcz.v (Ev.bind hr (by simp (disch := omega) only [↓reduceIte, BQ, Nat.reduceMod, Nat.reduceBEq, LN, S]; exact Ev.bind h (Ev.now _)))) ?_
  obtain ⟨T, ok, x, y⟩ := part_of D n ([], (a, (l, (r, (d, ([], ([], []))))))) (TimeToMeet_same a l r d)
  exact ⟨T, ok, qewz.v (by simp (disch := omega) only [↓reduceIte, BQ, Nat.reduceMod, Nat.reduceBEq, LN, S]; exact Ev.bind (qeez.v (by simp (disch := omega) only [↓reduceIte, BQ, Nat.reduceMod, Nat.reduceBEq, LN, S]; exact x)) (Ev.now _)), qchz.v (by simp (disch := omega) only [↓reduceIte, BQ, Nat.reduceMod, Nat.reduceBEq, LN, S]; exact y)⟩
theorem act_run {a l r d : Int} : Act (bs [114, 117, 110]) ([], (a, (l, (r, (d, ([], ([], []))))))) D n := by
  have hl := dlen hD
  have hn := (dOk_iff.1 hD).2
  refine act_ask hD (fun r h => qckz.v (by simp (disch := omega) only [↓reduceIte, BQ, Nat.reduceMod, Nat.reduceBEq, LN, S]; exact Ev.bind h (Ev.now _))) (fun Z h line hr => qhcz.v (Ev.bind hr (by simp (disch := omega) only [↓reduceIte, BQ, Nat.reduceMod, Nat.reduceBEq, LN, S]; exact Ev.bind h (Ev.now _)))) ?_
  obtain ⟨T, ok, x, y⟩ := part_of D n ([], (a, (l, (r, (d, ([], ([], []))))))) (DogDistance_same a l r d)
  exact ⟨T, ok, qewz.v (by simp (disch := omega) only [↓reduceIte, BQ, Nat.reduceMod, Nat.reduceBEq, LN, S]; exact Ev.bind (qeez.v (by simp (disch := omega) only [↓reduceIte, BQ, Nat.reduceMod, Nat.reduceBEq, LN, S]; exact x)) (Ev.now _)), qchz.v (by simp (disch := omega) only [↓reduceIte, BQ, Nat.reduceMod, Nat.reduceBEq, LN, S]; exact y)⟩
theorem act_apart {a l r d : Int} {m : Nat} : Act (bs [97, 112, 97, 114, 116]) ([], (a, (l, (r, (d, ([], ([], [(m : Int)]))))))) D n := by
  have hl := dlen hD
  have hn := (dOk_iff.1 hD).2
  refine act_ask hD (fun r h => qckz.v (by simp (disch := omega) only [↓reduceIte, BQ, Nat.reduceMod, Nat.reduceBEq, LN, S]; exact Ev.bind h (Ev.now _))) (fun Z h line hr => qhcz.v (Ev.bind hr (by simp (disch := omega) only [↓reduceIte, BQ, Nat.reduceMod, Nat.reduceBEq, LN, S]; exact Ev.bind h (Ev.now _)))) ?_
  obtain ⟨T, ok, x, y⟩ := part_of D n ([], (a, (l, (r, (d, ([], ([], [(m : Int)]))))))) (ApartAfterTurn_same a l r d (m : Int))
  exact ⟨T, ok, qewz.v (by simp (disch := omega) only [↓reduceIte, BQ, Nat.reduceMod, Nat.reduceBEq, LN, S]; exact Ev.bind (qeez.v (by simp (disch := omega) only [↓reduceIte, BQ, Nat.reduceMod, Nat.reduceBEq, LN, S]; exact x)) (Ev.now _)), qchz.v (by simp (disch := omega) only [↓reduceIte, BQ, Nat.reduceMod, Nat.reduceBEq, LN, S]; exact y)⟩
theorem act_mean {X : List Wk} : Act (bs [109, 101, 97, 110]) ([], (0, (0, (0, (0, (X, ([], []))))))) D n := by
  have hl := dlen hD
  have hn := (dOk_iff.1 hD).2
  refine act_ask hD (fun r h => qckz.v (by simp (disch := omega) only [↓reduceIte, BQ, Nat.reduceMod, Nat.reduceBEq, LN, S]; exact Ev.bind h (Ev.now _))) (fun Z h line hr => qhcz.v (Ev.bind hr (by simp (disch := omega) only [↓reduceIte, BQ, Nat.reduceMod, Nat.reduceBEq, LN, S]; exact Ev.bind h (Ev.now _)))) ?_
  obtain ⟨T, ok, x, y⟩ := part_of D n ([], (0, (0, (0, (0, (X, ([], []))))))) (MeanSpeed_same X)
  exact ⟨T, ok, qewz.v (by simp (disch := omega) only [↓reduceIte, BQ, Nat.reduceMod, Nat.reduceBEq, LN, S]; exact Ev.bind (qeez.v (by simp (disch := omega) only [↓reduceIte, BQ, Nat.reduceMod, Nat.reduceBEq, LN, S]; exact x)) (Ev.now _)), qchz.v (by simp (disch := omega) only [↓reduceIte, BQ, Nat.reduceMod, Nat.reduceBEq, LN, S]; exact y)⟩
theorem act_time {X : List Wk} : Act (bs [116, 105, 109, 101]) ([], (0, (0, (0, (0, (X, ([], []))))))) D n := by
  have hl := dlen hD
  have hn := (dOk_iff.1 hD).2
  refine act_ask hD (fun r h => qckz.v (by simp (disch := omega) only [↓reduceIte, BQ, Nat.reduceMod, Nat.reduceBEq, LN, S]; exact Ev.bind h (Ev.now _))) (fun Z h line hr => qhcz.v (Ev.bind hr (by simp (disch := omega) only [↓reduceIte, BQ, Nat.reduceMod, Nat.reduceBEq, LN, S]; exact Ev.bind h (Ev.now _)))) ?_
  obtain ⟨T, ok, x, y⟩ := part_of D n ([], (0, (0, (0, (0, (X, ([], []))))))) (TimeOfLegs_same X)
  exact ⟨T, ok, qewz.v (by simp (disch := omega) only [↓reduceIte, BQ, Nat.reduceMod, Nat.reduceBEq, LN, S]; exact Ev.bind (qeez.v (by simp (disch := omega) only [↓reduceIte, BQ, Nat.reduceMod, Nat.reduceBEq, LN, S]; exact x)) (Ev.now _)), qchz.v (by simp (disch := omega) only [↓reduceIte, BQ, Nat.reduceMod, Nat.reduceBEq, LN, S]; exact y)⟩
theorem act_need {X : List Wk} {m m2 : Nat} : Act (bs [110, 101, 101, 100]) ([], (0, (0, (0, (0, (X, ([], [(m : Int), (m2 : Int)]))))))) D n := by
  have hl := dlen hD
  have hn := (dOk_iff.1 hD).2
  refine act_ask hD (fun r h => qckz.v (by simp (disch := omega) only [↓reduceIte, BQ, Nat.reduceMod, Nat.reduceBEq, LN, S]; exact Ev.bind h (Ev.now _))) (fun Z h line hr => qhcz.v (Ev.bind hr (by simp (disch := omega) only [↓reduceIte, BQ, Nat.reduceMod, Nat.reduceBEq, LN, S]; exact Ev.bind h (Ev.now _)))) ?_
  obtain ⟨T, ok, x, y⟩ := part_of D n ([], (0, (0, (0, (0, (X, ([], [(m : Int), (m2 : Int)]))))))) (NeededSpeed_same X (m : Int) (m2 : Int))
  exact ⟨T, ok, qewz.v (by simp (disch := omega) only [↓reduceIte, BQ, Nat.reduceMod, Nat.reduceBEq, LN, S]; exact Ev.bind (qeez.v (by simp (disch := omega) only [↓reduceIte, BQ, Nat.reduceMod, Nat.reduceBEq, LN, S]; exact x)) (Ev.now _)), qchz.v (by simp (disch := omega) only [↓reduceIte, BQ, Nat.reduceMod, Nat.reduceBEq, LN, S]; exact y)⟩
theorem act_chance {m m2 m3 : Nat} : Act (bs [99, 104, 97, 110, 99, 101]) ([], (0, (0, (0, (0, ([], ([], [(m : Int), (m2 : Int), (m3 : Int)]))))))) D n := by
  have hl := dlen hD
  have hn := (dOk_iff.1 hD).2
  refine act_ask hD (fun r h => qckz.v (by simp (disch := omega) only [↓reduceIte, BQ, Nat.reduceMod, Nat.reduceBEq, LN, S]; exact Ev.bind h (Ev.now _))) (fun Z h line hr => qhcz.v (Ev.bind hr (by simp (disch := omega) only [↓reduceIte, BQ, Nat.reduceMod, Nat.reduceBEq, LN, S]; exact Ev.bind h (Ev.now _)))) ?_
  obtain ⟨T, ok, x, y⟩ := part_of D n ([], (0, (0, (0, (0, ([], ([], [(m : Int), (m2 : Int), (m3 : Int)]))))))) (ChanceTogether_same (m : Int) (m2 : Int) (m3 : Int))
  exact ⟨T, ok, qewz.v (by simp (disch := omega) only [↓reduceIte, BQ, Nat.reduceMod, Nat.reduceBEq, LN, S]; exact Ev.bind (qeez.v (by simp (disch := omega) only [↓reduceIte, BQ, Nat.reduceMod, Nat.reduceBEq, LN, S]; exact x)) (Ev.now _)), qchz.v (by simp (disch := omega) only [↓reduceIte, BQ, Nat.reduceMod, Nat.reduceBEq, LN, S]; exact y)⟩
theorem act_visits {X : List Wk} (hX : listOk 6 vOk X = true) : Act (bs [118, 105, 115, 105, 116, 115]) ([], (0, (0, (0, (0, ([], (X, []))))))) D n := by
  have hl := dlen hD
  have hn := (dOk_iff.1 hD).2
  obtain ⟨L, l1, l2, l3, l4⟩ := Pairs_same hX
  refine act_ask hD (fun r h => qckz.v (by simp (disch := omega) only [↓reduceIte, BQ, Nat.reduceMod, Nat.reduceBEq, LN, S]; exact Ev.bind h (Ev.now _))) (fun Z h line hr => qhcz.v (Ev.bind hr (by simp (disch := omega) only [↓reduceIte, BQ, Nat.reduceMod, Nat.reduceBEq, LN, S]; exact Ev.bind h (Ev.now _)))) ?_
  obtain ⟨T, ok, x, y⟩ := rows_of D n ([], (0, (0, (0, (0, ([], (X, []))))))) l1 l2 (by omega) l3
  exact ⟨T, ok, qewz.v (by simp (disch := omega) only [↓reduceIte, BQ, Nat.reduceMod, Nat.reduceBEq, LN, S]; exact Ev.bind (qeez.v (by simp (disch := omega) only [↓reduceIte, BQ, Nat.reduceMod, Nat.reduceBEq, LN, S]; exact x)) (Ev.now _)), qchz.v (by simp (disch := omega) only [↓reduceIte, BQ, Nat.reduceMod, Nat.reduceBEq, LN, S]; exact y)⟩
theorem act_guides {X : List Wk} (hX : listOk 6 vOk X = true) : Act (bs [103, 117, 105, 100, 101, 115]) ([], (0, (0, (0, (0, ([], (X, []))))))) D n := by
  have hl := dlen hD
  have hn := (dOk_iff.1 hD).2
  obtain ⟨L, l1, l2, l3, l4⟩ := FewestGuides_same hX
  refine act_ask hD (fun r h => qckz.v (by simp (disch := omega) only [↓reduceIte, BQ, Nat.reduceMod, Nat.reduceBEq, LN, S]; exact Ev.bind h (Ev.now _))) (fun Z h line hr => qhcz.v (Ev.bind hr (by simp (disch := omega) only [↓reduceIte, BQ, Nat.reduceMod, Nat.reduceBEq, LN, S]; exact Ev.bind h (Ev.now _)))) ?_
  obtain ⟨T, ok, x, y⟩ := text_of D n ([], (0, (0, (0, (0, ([], (X, []))))))) l1 l2 (by omega) l4
  exact ⟨T, ok, qewz.v (by simp (disch := omega) only [↓reduceIte, BQ, Nat.reduceMod, Nat.reduceBEq, LN, S]; exact Ev.bind (qeez.v (by simp (disch := omega) only [↓reduceIte, BQ, Nat.reduceMod, Nat.reduceBEq, LN, S]; exact x)) (Ev.now _)), qchz.v (by simp (disch := omega) only [↓reduceIte, BQ, Nat.reduceMod, Nat.reduceBEq, LN, S]; exact y)⟩
end
theorem says_ok {n : Nat} {ok : Wk → Bool} {o : Option (List Wk)} (h : (listSays n ok o).2 = true) : listOk n ok (listSays n ok o).1 = true := by
  cases o with
  | none => cases h
  | some L =>
    unfold listSays at *
    by_cases c : listOk n ok L = true
    · simp only [if_pos c]; exact c
    · simp only [if_neg c] at h; cases h
theorem takeN {w : List UInt8} {s t : Ar} (h : takeA 78 w s = some t) : ∃ m : Nat, m ≤ 999999 ∧ t = (s.1, (s.2.1, (s.2.2.1, (s.2.2.2.1, (s.2.2.2.2.1, (s.2.2.2.2.2.1, (s.2.2.2.2.2.2.1, s.2.2.2.2.2.2.2 ++ [(m : Int)]))))))) := by
  rw [takeA_N] at h
  have hb := l1r_bd w
  by_cases c : 0 ≤ l1r w
  · rw [if_pos c] at h
    injection h with h
    exact ⟨(l1r w).toNat, by omega, by rw [show (((l1r w).toNat : Nat) : Int) = l1r w by omega]; exact h.symm⟩
  · rw [if_neg c] at h; cases h
theorem takeW {w : List UInt8} {s t : Ar} (h : takeA 87 w s = some t) : ∃ X, listOk 8 wOk X = true ∧ t = (X, s.2) := by
  unfold takeA at h
  rw [if_pos rfl] at h
  split at h
  · rename_i c
    injection h with h
    exact ⟨_, says_ok c, h.symm⟩
  · cases h
theorem takeC {w : List UInt8} {s t : Ar} (h : takeA 67 w s = some t) : ∃ a l r d : Int, t = (s.1, (a, (l, (r, (d, s.2.2.2.2.2))))) := by
  unfold takeA at h
  rw [if_neg (by decide), if_pos rfl] at h
  split at h
  · injection h with h
    exact ⟨_, _, _, _, h.symm⟩
  · cases h
theorem takeG {w : List UInt8} {s t : Ar} (h : takeA 76 w s = some t) : ∃ X, t = (s.1, (s.2.1, (s.2.2.1, (s.2.2.2.1, (s.2.2.2.2.1, (X, s.2.2.2.2.2.2)))))) := by
  unfold takeA at h
  rw [if_neg (by decide), if_neg (by decide), if_pos rfl] at h
  split at h
  · injection h with h
    exact ⟨_, h.symm⟩
  · cases h
theorem takeV {w : List UInt8} {s t : Ar} (h : takeA 86 w s = some t) : ∃ X, listOk 6 vOk X = true ∧ t = (s.1, (s.2.1, (s.2.2.1, (s.2.2.2.1, (s.2.2.2.2.1, (s.2.2.2.2.2.1, (X, s.2.2.2.2.2.2.2))))))) := by
  unfold takeA at h
  rw [if_neg (by decide), if_neg (by decide), if_neg (by decide), if_pos rfl] at h
  split at h
  · rename_i c
    injection h with h
    exact ⟨_, says_ok c, h.symm⟩
  · cases h
theorem takeL1 {c : Nat} {w : List UInt8} {s t : Ar} (h : takeL [c] [w] s = some t) : takeA c w s = some t := by
  have h' : (takeA c w s).bind (fun s => some s) = some t := h
  cases e : takeA c w s with
  | none => rw [e] at h'; cases h'
  | some u => rw [e] at h'; exact h'
theorem takeL2 {c c2 : Nat} {w w2 : List UInt8} {s t : Ar} (h : takeL [c, c2] [w, w2] s = some t) : ∃ u, takeA c w s = some u ∧ takeA c2 w2 u = some t := by
  have h' : (takeA c w s).bind (takeL [c2] [w2]) = some t := h
  cases e : takeA c w s with
  | none => rw [e] at h'; cases h'
  | some u => rw [e] at h'; exact ⟨u, rfl, takeL1 h'⟩
theorem takeL3 {c c2 c3 : Nat} {w w2 w3 : List UInt8} {s t : Ar} (h : takeL [c, c2, c3] [w, w2, w3] s = some t) : ∃ u v, takeA c w s = some u ∧ takeA c2 w2 u = some v ∧ takeA c3 w3 v = some t := by
  have h' : (takeA c w s).bind (takeL [c2, c3] [w2, w3]) = some t := h
  cases e : takeA c w s with
  | none => rw [e] at h'; cases h'
  | some u => rw [e] at h'; obtain ⟨v, a, b⟩ := takeL2 h'; exact ⟨u, v, rfl, a, b⟩
theorem len3 {α : Type} {l : List α} (h : l.length = 3) : ∃ a b c, l = [a, b, c] := by
  match l, h with
  | [a, b, c], _ => exact ⟨a, b, c, rfl⟩
def s0 : Ar := ([], (0, (0, (0, (0, ([], ([], [])))))))
theorem act_all {D : List Wk} {n : Int} (hD : dOk D n = true) {e : List Nat × List Nat} (he : e ∈ table) {ws : List (List UInt8)} (hl : e.2.length = ws.length) {t : Ar} (ht : takeL e.2 ws s0 = some t) : Act (bs e.1) t D n := by
  unfold table at he
  simp only [List.mem_cons, List.not_mem_nil, or_false] at he
  rcases he with rfl | rfl | rfl | rfl | rfl | rfl | rfl | rfl | rfl | rfl | rfl | rfl | rfl | rfl | rfl | rfl | rfl | rfl | rfl | rfl | rfl | rfl | rfl | rfl | rfl | rfl
  · obtain ⟨w, rfl⟩ := List.length_eq_one_iff.1 hl.symm
    obtain ⟨X, hX, rfl⟩ := takeW (takeL1 ht)
    exact act_walkers hD hX
  · obtain ⟨w, rfl⟩ := List.length_eq_one_iff.1 hl.symm
    obtain ⟨X, hX, rfl⟩ := takeW (takeL1 ht)
    exact act_add hD hX
  · obtain ⟨w, rfl⟩ := List.length_eq_one_iff.1 hl.symm
    obtain ⟨m, hm, rfl⟩ := takeN (takeL1 ht)
    exact act_ring hD hm
  · obtain ⟨w, rfl⟩ := List.length_eq_one_iff.1 hl.symm
    obtain ⟨m, hm, rfl⟩ := takeN (takeL1 ht)
    exact act_turn hD hm
  · obtain ⟨w, rfl⟩ := List.length_eq_one_iff.1 hl.symm
    obtain ⟨m, hm, rfl⟩ := takeN (takeL1 ht)
    exact act_drop hD hm
  · obtain ⟨w, rfl⟩ := List.length_eq_one_iff.1 hl.symm
    obtain ⟨m, hm, rfl⟩ := takeN (takeL1 ht)
    exact act_at hD hm
  · have hw : ws = [] := List.length_eq_zero_iff.1 hl.symm
    subst hw
    injection ht with ht
    subst ht
    exact act_show hD
  · have hw : ws = [] := List.length_eq_zero_iff.1 hl.symm
    subst hw
    injection ht with ht
    subst ht
    exact act_pairs hD
  · have hw : ws = [] := List.length_eq_zero_iff.1 hl.symm
    subst hw
    injection ht with ht
    subst ht
    exact act_first hD
  · have hw : ws = [] := List.length_eq_zero_iff.1 hl.symm
    subst hw
    injection ht with ht
    subst ht
    exact act_lead hD
  · have hw : ws = [] := List.length_eq_zero_iff.1 hl.symm
    subst hw
    injection ht with ht
    subst ht
    exact act_last hD
  · have hw : ws = [] := List.length_eq_zero_iff.1 hl.symm
    subst hw
    injection ht with ht
    subst ht
    exact act_start hD
  · obtain ⟨w, w2, rfl⟩ := len2 hl.symm
    obtain ⟨u, h1, h2⟩ := takeL2 ht
    obtain ⟨m, hm, rfl⟩ := takeN h1
    obtain ⟨m2, hm2, rfl⟩ := takeN h2
    exact act_meet hD hm hm2
  · obtain ⟨w, w2, rfl⟩ := len2 hl.symm
    obtain ⟨u, h1, h2⟩ := takeL2 ht
    obtain ⟨m, hm, rfl⟩ := takeN h1
    obtain ⟨m2, hm2, rfl⟩ := takeN h2
    exact act_where hD hm hm2
  · obtain ⟨w, w2, rfl⟩ := len2 hl.symm
    obtain ⟨u, h1, h2⟩ := takeL2 ht
    obtain ⟨m, hm, rfl⟩ := takeN h1
    obtain ⟨m2, hm2, rfl⟩ := takeN h2
    exact act_around hD hm hm2
  · obtain ⟨w, w2, rfl⟩ := len2 hl.symm
    obtain ⟨u, h1, h2⟩ := takeL2 ht
    obtain ⟨m, hm, rfl⟩ := takeN h1
    obtain ⟨m2, hm2, rfl⟩ := takeN h2
    exact act_gap hD hm hm2
  · obtain ⟨w, w2, rfl⟩ := len2 hl.symm
    obtain ⟨u, h1, h2⟩ := takeL2 ht
    obtain ⟨m, hm, rfl⟩ := takeN h1
    obtain ⟨m2, hm2, rfl⟩ := takeN h2
    exact act_places hD hm hm2
  · obtain ⟨w, rfl⟩ := List.length_eq_one_iff.1 hl.symm
    obtain ⟨a, l, r, d, rfl⟩ := takeC (takeL1 ht)
    exact act_dog hD
  · obtain ⟨w, rfl⟩ := List.length_eq_one_iff.1 hl.symm
    obtain ⟨a, l, r, d, rfl⟩ := takeC (takeL1 ht)
    exact act_run hD
  · obtain ⟨w, w2, rfl⟩ := len2 hl.symm
    obtain ⟨u, h1, h2⟩ := takeL2 ht
    obtain ⟨a, l, r, d, rfl⟩ := takeC h1
    obtain ⟨m, hm, rfl⟩ := takeN h2
    exact act_apart hD
  · obtain ⟨w, rfl⟩ := List.length_eq_one_iff.1 hl.symm
    obtain ⟨X, rfl⟩ := takeG (takeL1 ht)
    exact act_mean hD
  · obtain ⟨w, rfl⟩ := List.length_eq_one_iff.1 hl.symm
    obtain ⟨X, rfl⟩ := takeG (takeL1 ht)
    exact act_time hD
  · obtain ⟨w, w2, w3, rfl⟩ := len3 hl.symm
    obtain ⟨u, v, h1, h2, h3⟩ := takeL3 ht
    obtain ⟨X, rfl⟩ := takeG h1
    obtain ⟨m, hm, rfl⟩ := takeN h2
    obtain ⟨m2, hm2, rfl⟩ := takeN h3
    exact act_need hD
  · obtain ⟨w, rfl⟩ := List.length_eq_one_iff.1 hl.symm
    obtain ⟨X, hX, rfl⟩ := takeV (takeL1 ht)
    exact act_visits hD hX
  · obtain ⟨w, rfl⟩ := List.length_eq_one_iff.1 hl.symm
    obtain ⟨X, hX, rfl⟩ := takeV (takeL1 ht)
    exact act_guides hD hX
  · obtain ⟨w, w2, w3, rfl⟩ := len3 hl.symm
    obtain ⟨u, v, h1, h2, h3⟩ := takeL3 ht
    obtain ⟨m, hm, rfl⟩ := takeN h1
    obtain ⟨m2, hm2, rfl⟩ := takeN h2
    obtain ⟨m3, hm3, rfl⟩ := takeN h3
    exact act_chance hD
theorem form_ok : ∀ e ∈ table, ∀ c ∈ e.2, letter c := by
  unfold table letter
  decide
theorem form_len : ∀ e ∈ table, e.2.length ≤ 3 := by decide
theorem read_f {D : List Wk} {n : Int} {l : List UInt8} (hl : l.length ≤ 100000) {w0 : List UInt8} {ws : List (List UInt8)} (hs : splitL 32 l = w0 :: ws) {Sh : BA} (hS : qfmz.f (bL w0) = some Sh) {r : ReadR}
    (h : (Sh.size : Int) ≠ (ws.length : Int) → r.1 = bs [] ∧ r.2.1 = (D, (n, s0)) ∧ r.2.2 = false) (h' : (Sh.size : Int) = (ws.length : Int) → Ev (fun k => specL0 k (bL w0 :: ws.map bL) Sh (ws.map bL) (ws.length : Int) 0 D n s0) r) : Ev (fun k => qhdz.f k D n (bL l)) r := by
  have hb := splitL_length 32 l
  rw [hs, List.length_cons] at hb
  have hq : Ev (fun k => qftz.f k (bL l) 32) (bL w0 :: ws.map bL) := by
    have := spec_l1Split_eq (l := l) (by omega) 32
    rw [hs] at this
    exact this
  have hlen : (bL w0 :: ws.map bL).length = ws.length + 1 := by simp
  refine qhdz.v (Ev.bind hq ?_)
  simp (disch := omega) only [S, rd0, hS, hlen]
  by_cases c : (Sh.size : Int) = (ws.length : Int)
  · have e : ((Sh.size : Int) != (((ws.length + 1 : Nat) : Int) - 1)) = false := by rw [bne_eq_false_iff_eq]; omega
    have e2 : List.drop 1 (bL w0 :: ws.map bL) = ws.map bL := rfl
    have e3 : (ws.map bL).length = ws.length := List.length_map _
    simp (disch := omega) only [S, e, e2, e3]
    exact h' c
  · have e : ((Sh.size : Int) != (((ws.length + 1 : Nat) : Int) - 1)) = true := by rw [bne_iff_ne]; omega
    simp (disch := omega) only [S, e]
    obtain ⟨r1, ⟨r2, r3⟩, r4⟩ := r
    obtain ⟨z1, z2, z3⟩ := h c
    simp only at z1 z2 z3
    subst z1 z3
    cases z2
    exact Ev.now _
theorem line_f {D : List Wk} {n : Int} {l : List UInt8} (hl : l.length ≤ 100000) {w0 : List UInt8} {ws : List (List UInt8)} (hs : splitL 32 l = w0 :: ws) {Fm : BA} (hS : qfaz.f (bL w0) = some (Fm, true)) {r : (List Wk × Int) × BA}
    (h : (Fm.size : Int) ≠ (ws.length : Int) → r = ((D, n), whatB)) (h' : (Fm.size : Int) = (ws.length : Int) → Ev (fun k => implL0 k (bL w0 :: ws.map bL) Fm (ws.map bL) (ws.length : Int) 0 D n s0) r) : Ev (fun k => qerz.f k D n (bL l)) r := by
  have hb := splitL_length 32 l
  rw [hs, List.length_cons] at hb
  have hq : qfbz.f (bL l) (bs [32]) = some (bL w0 :: ws.map bL) := by
    have := strings_Split_eq (l := l) (by omega) 32
    rw [hs] at this
    exact this
  have hlen : (bL w0 :: ws.map bL).length = ws.length + 1 := by simp
  refine qerz.v ?_
  simp (disch := omega) only [S, hq, rd0, hS, hlen]
  by_cases c : (Fm.size : Int) = (ws.length : Int)
  · have e : ((Fm.size : Int) != (((ws.length + 1 : Nat) : Int) - 1)) = false := by rw [bne_eq_false_iff_eq]; omega
    have e2 : List.drop 1 (bL w0 :: ws.map bL) = ws.map bL := rfl
    have e3 : (ws.map bL).length = ws.length := List.length_map _
    simp (disch := omega) only [S, e, e2, e3]
    exact h' c
  · have e : ((Fm.size : Int) != (((ws.length + 1 : Nat) : Int) - 1)) = true := by rw [bne_iff_ne]; omega
    simp (disch := omega) only [S, e]
    rw [h c]
    exact Ev.now _
theorem step_bad {D : List Wk} {n : Int} {l : BA} {z} (h : Ev (fun k => qhdz.f k D n l) (bs [], (z, false))) : Ev (fun k => qhcz.f k D n l) ((D, n), whatB) := by
  refine qhcz.v (Ev.bind h ?_)
  simp only [S]
  exact Ev.now _
theorem line_same {D : List Wk} {n : Int} (hD : dOk D n = true) {l : List UInt8} (hl : l.length ≤ 100000) : ∃ r : (List Wk × Int) × BA, dOk r.1.1 r.1.2 = true ∧ Ev (fun k => qerz.f k D n (bL l)) r ∧ Ev (fun k => qhcz.f k D n (bL l)) r := by
  have hb := splitL_length 32 l
  have hm := splitL_mem 32 l
  cases hs : splitL 32 l with
  | nil => exact absurd hs (splitL_ne 32 l)
  | cons w0 ws =>
    rw [hs, List.length_cons] at hb
    have hw : ∀ w ∈ ws, w.length ≤ 2000000 := fun w h => by
      have := hm w (by rw [hs]; exact List.mem_cons_of_mem _ h)
      omega
    rcases shape_cases w0 with ⟨u1, u2⟩ | ⟨e, he, e1, e2, e3⟩
    · refine ⟨((D, n), whatB), hD, ?_, step_bad (z := (D, (n, s0))) (read_f hl hs u2 (fun _ => ⟨rfl, rfl, rfl⟩) (fun hc => ?_))⟩
      · have hq : qfbz.f (bL l) (bs [32]) = some (bL w0 :: ws.map bL) := by
          have := strings_Split_eq (l := l) (by omega) 32
          rw [hs] at this
          exact this
        have hlen : (bL w0 :: ws.map bL).length = ws.length + 1 := by simp
        refine qerz.v ?_
        simp (disch := omega) only [S, hq, rd0, u1, hlen]
        exact Ev.now _
      · rw [bs_size] at hc
        simp only [List.length_cons, List.length_nil] at hc
        have hml : (ws.map bL).length = ws.length := List.length_map _
        have hz : bat (bs [63]) (0 : Int) = 63 := by
          have := bat_bs (fs := [63]) (i := 0) (by decide)
          exact this
        have hz2 : (bs [63]).size = 1 := bs_size [63]
        refine qhdz.v0 ?_
        have c0 : iLt 0 (ws.length : Int) = true := decide_eq_true (by omega)
        have c1 : ∀ {β : Type} (x : Option β), ix 0 (ws.map bL) x = x := fun x => S.2.1 (by decide) (by omega)
        have c2 : ∀ {β : Type} (x : Option β), gd (0 < sln (bs [63])) x = x := fun x => S.1 (by show (0 : Int) < ((bs [63]).size : Int); omega)
        have c3 : ∀ {β : Type} (x : Option β), gd ((0 : Int) ≤ 0) x = x := fun x => S.1 (by decide)
        have d1 : ((63 : Int) == 110) = false := by decide
        have d2 : ((63 : Int) == 119) = false := by decide
        have d3 : ((63 : Int) == 99) = false := by decide
        have d4 : ((63 : Int) == 108) = false := by decide
        have d5 : ((63 : Int) == 118) = false := by decide
        simp only [c0, c1, c2, c3, hz, d1, d2, d3, d4, d5, if_true, Bool.false_eq_true, if_false]
        exact Ev.now _
    · rw [← e1] at e2 e3
      have z1 := bs_size e.2
      have z2 := bs_size (e.2.map (· + 32))
      rw [List.length_map] at z2
      by_cases hc : e.2.length = ws.length
      · have h3 := form_len e he
        have hr := read_loop (w0 := w0) (D := D) (n := n) (form_ok e he) hc (by omega) hw ws.length 0 (by omega) s0 (by decide)
        rw [List.drop_zero, List.drop_zero] at hr
        cases ht : takeL e.2 ws s0 with
        | none =>
          obtain ⟨a, z, b⟩ := hr.1 ht
          exact ⟨((D, n), whatB), hD, line_f hl hs e2 (fun h => absurd (by omega) h) (fun _ => a), step_bad (read_f hl hs e3 (fun h => absurd (by omega) h) (fun _ => b))⟩
        | some t =>
          obtain ⟨a, b⟩ := hr.2 t ht
          obtain ⟨r, r1, ⟨R, r2, r3⟩, r4⟩ := act_all hD he hc ht
          rw [← e1] at r2 r4
          refine ⟨r, r1, line_f hl hs e2 (fun h => absurd (by omega) h) (fun _ => by rw [r3]; exact a R r2), r4 _ (read_f hl hs e3 (fun h => absurd (by omega) h) (fun _ => b))⟩
      · exact ⟨((D, n), whatB), hD, line_f hl hs e2 (fun _ => rfl) (fun h => absurd (by omega) hc), step_bad (z := (D, (n, s0))) (read_f hl hs e3 (fun _ => ⟨rfl, rfl, rfl⟩) (fun h => absurd (by omega) hc))⟩
theorem split_more {c : UInt8} : ∀ {l : List UInt8}, c ∈ l → 1 < (splitL c l).length := by
  intro l
  induction l with
  | nil => intro h; simp at h
  | cons b l ih =>
    intro h
    have h0 := splitL_ne c l
    unfold splitL
    by_cases e : b = c
    · rw [if_pos e, List.length_cons]
      have := List.length_pos_iff.2 h0
      omega
    · rw [if_neg e]
      have h' : c ∈ l := by
        rcases List.mem_cons.1 h with h | h
        · exact absurd h.symm e
        · exact h
      have := ih h'
      cases hs : splitL c l with
      | nil => exact absurd hs h0
      | cons w ws => rw [hs] at this; simpa using this
theorem ib {c : UInt8} : ∀ l : List UInt8, (c ∈ l → 0 ≤ Lib.indexByte l c) ∧ (c ∉ l → Lib.indexByte l c = -1)
  | [] => ⟨fun h => by simp at h, fun _ => rfl⟩
  | b :: l => by
    obtain ⟨h1, h2⟩ := ib (c := c) l
    unfold Lib.indexByte
    by_cases e : b = c
    · subst e
      exact ⟨fun _ => by simp, fun h => absurd (List.mem_cons_self) h⟩
    · have e' : (b == c) = false := by simpa using e
      rw [e', if_neg (by decide)]
      refine ⟨fun h => ?_, fun h => ?_⟩
      · have h' : c ∈ l := by
          rcases List.mem_cons.1 h with h | h
          · exact absurd h.symm e
          · exact h
        have := h1 h'
        rw [if_neg (by rw [beq_iff_eq]; omega)]
        omega
      · have := h2 (fun hc => h (List.mem_cons_of_mem _ hc))
        rw [this]; rfl
theorem contains_eq (l : List UInt8) (c : UInt8) : qcnz.f (bL l) (bL [c]) = some (decide (1 < (splitL c l).length)) := by
  have h1 : containsB (bL l) (bL [c]) = decide (1 < (splitL c l).length) := by
    unfold containsB
    rw [toL_bL, toL_bL, show ([c] : List UInt8).headD 0 = c from rfl]
    by_cases h : c ∈ l
    · rw [decide_eq_true (split_more h), decide_eq_true ((ib l).1 h)]
    · rw [splitL_no c l h, (ib l).2 h]
      rfl
  show (bif oneB (bL l) (bL [c]) then some (containsB (bL l) (bL [c])) else none) = _
  rw [h1]
  rfl
abbrev DkR := (List Wk × Int) × (BA × Bool)
theorem DeskLine_same (D : List Wk) (n : Int) {l : List UInt8} (hl : l.length ≤ 2000000) : ∃ r : DkR, r.1.1.length ≤ 8 ∧ (r.2.2 = true → dOk r.1.1 r.1.2 = true) ∧ Ev (fun k => qepz.f k D n (bL l)) r ∧ Ev (fun k => qfdz.f k D n (bL l)) r := by
  have hI := impl_IsDesk_eq D n
  have hS := spec_coGood_eq D n
  cases hD : dOk D n with
  | false =>
    rw [hD] at hI hS
    refine ⟨(([], 0), (bs [], false)), by decide, by simp, qepz.v (Ev.bind hI ?_), qfdz.v (Ev.bind hS ?_)⟩ <;> simp only [S] <;> exact Ev.now _
  | true =>
    rw [hD] at hI hS
    by_cases h3 : 3000 < l.length
    · refine ⟨(([], 0), (bs [], false)), by decide, by simp, qepz.v (Ev.bind hI ?_), qfdz.v (Ev.bind hS ?_)⟩ <;> simp (disch := omega) only [S, bL_size] <;> exact Ev.now _
    · have hC := contains_eq l 10
      have hP : Ev (fun k => qftz.f k (bL l) 10) ((splitL 10 l).map bL) := spec_l1Split_eq (l := l) (by omega) 10
      have hC' : qcnz.f (bL l) (bs [10]) = some (decide (1 < (splitL 10 l).length)) := hC
      have hml : ((splitL 10 l).map bL).length = (splitL 10 l).length := List.length_map _
      by_cases h1 : 1 < (splitL 10 l).length
      · rw [decide_eq_true h1] at hC'
        refine ⟨(([], 0), (bs [], false)), by decide, by simp, qepz.v (Ev.bind hI ?_), qfdz.v (Ev.bind hS ?_)⟩
        · simp (disch := omega) only [S, bL_size, hC']
          exact Ev.now _
        · simp (disch := omega) only [S, bL_size]
          refine Ev.bind hP ?_
          simp (disch := omega) only [S, hml]
          exact Ev.now _
      · rw [decide_eq_false h1] at hC'
        obtain ⟨r, r1, r2, r3⟩ := line_same hD (l := l) (by omega)
        have h8 := (listOk_iff.1 (dOk_iff.1 r1).1).1
        refine ⟨(r.1, (r.2, true)), h8.2, fun _ => r1, qepz.v (Ev.bind hI ?_), qfdz.v (Ev.bind hS ?_)⟩
        · simp (disch := omega) only [S, bL_size, hC']
          refine Ev.bind r2 ?_
          unfold qbfz.f
          simp (disch := omega) only [S]
          exact Ev.now _
        · simp (disch := omega) only [S, bL_size]
          refine Ev.bind hP ?_
          simp (disch := omega) only [S, hml]
          refine Ev.bind r3 ?_
          unfold qhnz.f
          simp (disch := omega) only [S]
          exact Ev.now _
theorem eqWalkers_refl {l : List Wk} (h : l.length ≤ 2000000) : Ev (fun k => qegz.f k l l) true := by
  have key : ∀ (d i : Nat), i + d = l.length → Ev (fun k => qegz.l0 k l l (i : Int)) true := by
    intro d
    induction d with
    | zero =>
      intro i hi
      refine qegz.v0 ?_
      simp (disch := omega) only [S]
      exact Ev.now _
    | succ d ih =>
      intro i hi
      have h := ih (i + 1) (by omega)
      refine qegz.v0 ?_
      unfold qfgz.f
      simp (disch := omega) only [S]
      exact h
  refine qegz.v ?_
  simp (disch := omega) only [S]
  exact key l.length 0 (by omega)
theorem eqDesk_refl {l : List Wk} (h : l.length ≤ 2000000) (n : Int) : Ev (fun k => qgxz.f k l n l n) true := by
  refine qgxz.v (Ev.bind (eqWalkers_refl h) ?_)
  simp (disch := omega) only [S]
  exact Ev.now _
theorem toDesk_eq {l : List Wk} (h : l.length ≤ 2000000) (n : Int) : Ev (fun k => qgsz.f k l n) (l, n) := by
  refine qgsz.v (Ev.bind (v := l) (qdzz.v ?_) (Ev.now _))
  have key : ∀ (d i : Nat), i + d = l.length → Ev (fun k => qdzz.l0 k l (i : Int) ((l.take i).map id ++ List.replicate (l.length - i) ((0 : Int), (0 : Int)))) l := by
    intro d
    induction d with
    | zero =>
      intro i hi
      rw [List.take_of_length_le (by omega), show l.length - i = 0 by omega, List.replicate_zero, List.append_nil, List.map_id]
      refine qdzz.v0 ?_
      simp (disch := omega) only [S]
      exact Ev.now _
    | succ d ih =>
      intro i hi
      have h := ih (i + 1) (by omega)
      rw [← fill_step id (0, 0) (0, 0) (show i < l.length by omega)] at h
      have hl := fill_len (id : Wk → Wk) ((0 : Int), (0 : Int)) (l := l) (i := i) (by omega)
      refine qdzz.v0 ?_
      unfold qezz.f
      simp (disch := omega) only [S]
      exact h
  have h0 := key l.length 0 (by omega)
  simp (disch := omega) only [S]
  exact h0
def mk (i : Nat) : List Wk := (List.range i).map fun j : Nat => ((1 + 2 * (j : Int) : Int), (2 + 2 * (j : Int) : Int))
theorem mk_len (i : Nat) : (mk i).length = i := by simp [mk]
theorem mk_succ (i : Nat) : mk (i + 1) = mk i ++ [((1 + 2 * (i : Int) : Int), (2 + 2 * (i : Int) : Int))] := by unfold mk; rw [List.range_succ]; simp
theorem mk_at {m i : Nat} (h : i < m) : (mk m).getD i (0, 0) = (1 + 2 * (i : Int), 2 + 2 * (i : Int)) := by
  unfold mk
  simp [h]
theorem set2 {α : Type} {z a b c : α} {u v : List α} {i : Nat} (h : u.length = i) : (u ++ c :: v).getD i z = c ∧ (u ++ c :: v).set i a = u ++ a :: v := by
  subst h
  exact ⟨by simp [List.getD_eq_getElem?_getD], by rw [List.set_append_right _ _ (by omega)]; simp⟩
theorem mark_eq {l : List Wk} (h : l.length ≤ 2000000) (n : Int) : Ev (fun k => qfez.f k l n 1) (1 + 2 * ((l.length : Nat) : Int), mk l.length) := by
  refine qfez.v (Ev.bind (v := (1 + 2 * ((l.length : Nat) : Int), mk l.length)) (qczz.v ?_) (Ev.now _))
  have key : ∀ (d i : Nat), i + d = l.length → Ev (fun k => qczz.l0 k (1 + 2 * (i : Int)) (i : Int) (mk i ++ l.drop i)) (1 + 2 * ((l.length : Nat) : Int), mk l.length) := by
    intro d
    induction d with
    | zero =>
      intro i hi
      have hm := mk_len i
      rw [List.drop_eq_nil_of_le (by omega), List.append_nil, show l.length = i by omega]
      refine qczz.v0 ?_
      simp (disch := omega) only [S]
      exact Ev.now _
    | succ d ih =>
      intro i hi
      have h := ih (i + 1) (by omega)
      have hm := mk_len i
      rw [mk_succ, List.append_assoc, List.singleton_append] at h
      rw [drop_cons (0, 0) (show i < l.length by omega)]
      generalize l.drop (i + 1) = v at *
      generalize hy : l.getD i (0, 0) = y at *
      have hL : (mk i ++ y :: v).length = i + 1 + v.length := by simp; omega
      obtain ⟨g1, _⟩ := set2 (z := ((0 : Int), (0 : Int))) (a := ((0 : Int), (0 : Int))) (b := y) (c := y) (v := v) hm
      have s1 : (mk i ++ y :: v).set i (1 + 2 * (i : Int), y.2) = mk i ++ (1 + 2 * (i : Int), y.2) :: v := (set2 (z := ((0 : Int), (0 : Int))) (b := y) hm).2
      have hL2 : (mk i ++ ((1 + 2 * (i : Int) : Int), y.2) :: v).length = i + 1 + v.length := by simp; omega
      have g2 : (mk i ++ ((1 + 2 * (i : Int) : Int), y.2) :: v).getD i (0, 0) = (1 + 2 * (i : Int), y.2) := (set2 (a := y) (b := y) hm).1
      have s2 : (mk i ++ ((1 + 2 * (i : Int) : Int), y.2) :: v).set i (1 + 2 * (i : Int), 2 + 2 * (i : Int)) = mk i ++ (1 + 2 * (i : Int), 2 + 2 * (i : Int)) :: v := (set2 (z := ((0 : Int), (0 : Int))) (b := y) hm).2
      have w1 : W (1 + 2 * (i : Int) + 1) = 2 + 2 * (i : Int) := by rw [w64 (by omega) (by omega)]; omega
      have w2 : W (2 + 2 * (i : Int) + 1) = 1 + 2 * ((i + 1 : Nat) : Int) := by rw [w64 (by omega) (by omega)]; omega
      have w3 : W ((i : Int) + 1) = ((i + 1 : Nat) : Int) := by rw [w64 (by omega) (by omega)]; omega
      refine qczz.v0 ?_
      simp only [w1, w2, w3]
      have c1 : iLt (i : Int) (ln (mk i ++ y :: v)) = true := decide_eq_true (by simp only [ln]; omega)
      have c2 : ∀ {β : Type} (x : Option β), ix (i : Int) (mk i ++ y :: v) x = x := fun x => S.2.1 (by omega) (by omega)
      have c3 : ∀ {β : Type} (x : Option β), ix (i : Int) (mk i ++ ((1 + 2 * (i : Int) : Int), y.2) :: v) x = x := fun x => S.2.1 (by omega) (by omega)
      simp only [c1, c2, rd_nat, castsub, g1, s1, c3, g2, s2, if_true]
      exact h
  have h0 := key l.length 0 (by omega)
  exact h0
theorem held_eq {m : Nat} (h : m ≤ 2000000) (n : Int) : Ev (fun k => qeuz.f k (mk m) n 1) (1 + 2 * (m : Int)) := by
  have hm := mk_len m
  have key : ∀ (d i : Nat), i + d = m → Ev (fun k => qdbz.l0 k (mk m) (1 + 2 * (i : Int)) (i : Int)) (1 + 2 * (m : Int)) := by
    intro d
    induction d with
    | zero =>
      intro i hi
      rw [show i = m by omega]
      refine qdbz.v0 ?_
      simp (disch := omega) only [S, hm]
      exact Ev.now _
    | succ d ih =>
      intro i hi
      have h := ih (i + 1) (by omega)
      have g := mk_at (m := m) (i := i) (by omega)
      have w1 : W (1 + 2 * (i : Int) + 1) = 2 + 2 * (i : Int) := by rw [w64 (by omega) (by omega)]; omega
      have w2 : W (2 + 2 * (i : Int) + 1) = 1 + 2 * ((i + 1 : Nat) : Int) := by rw [w64 (by omega) (by omega)]; omega
      refine qdbz.v0 ?_
      simp only [w1, w2]
      simp (disch := omega) only [S, hm, g]
      exact h
  refine qeuz.v (Ev.bind (qdbz.v (key m 0 (by omega))) ?_)
  simp (disch := omega) only [S]
  exact Ev.now _
theorem FnExactDeskLine (D : List (Int × Int)) (n : Int) (s : ByteArray) (hlz : D.length ≤ 140737488351232) : ∃ K, qbkz.f (fun _ => K) D n s = some true := by
  refine Ev.rounds (g := fun k => qbkz.f k D n s) (qbkz.v ?_)
  obtain ⟨l, rfl⟩ : ∃ l, s = bL l := ⟨_, (bL_toL s).symm⟩
  have hsz : sln (bL l) = (l.length : Int) := by simp only [sln, bL_size]
  have ff : ¬ (false = true) := by decide
  by_cases hs : 1048576 < l.length
  · have c : iGt (l.length : Int) 1048576 = true := decide_eq_true (by omega)
    simp only [hsz, c, if_true]
    exact Ev.now _
  · have c : iGt (l.length : Int) 1048576 = false := decide_eq_false (by omega)
    by_cases hd : 1048576 < D.length
    · have e : qgez.f D n 1048576 = some (-1) := by
        unfold qgez.f qemz.f
        simp (disch := omega) only [S]
      have c1 : iLt (-1) 0 = true := rfl
      simp only [hsz, c, if_neg ff, e, Option.bind_some, c1, if_true]
      exact Ev.now _
    · have e : qgez.f D n 1048576 = some (1048576 - (D.length : Int)) := by
        unfold qgez.f qemz.f
        simp (disch := omega) only [S]
      have c1 : iLt (1048576 - (D.length : Int)) 0 = false := decide_eq_false (by omega)
      obtain ⟨r, r1, _, r2, r3⟩ := DeskLine_same D n (l := l) (by omega)
      have hT := toDesk_eq (l := D) (by omega) n
      have hE := eqDesk_refl (l := D) (by omega) n
      have hR := eqDesk_refl (l := r.1.1) (by omega) r.1.2
      have hM := mark_eq (l := D) (by omega) n
      have hMr := mark_eq (l := r.1.1) (by omega) r.1.2
      have hH := held_eq (m := r.1.1.length) (by omega) r.1.2
      have c2 : iLt (1 + 2 * ((D.length : Nat) : Int)) 0 = false := decide_eq_false (by omega)
      have c3 : iLt (1 + 2 * ((r.1.1.length : Nat) : Int)) 0 = false := decide_eq_false (by omega)
      have b1 : (!true) = false := rfl
      have b2 : (r.2.2 == r.2.2) = true := beq_self_eq_true _
      have b3 : (1 + 2 * ((r.1.1.length : Nat) : Int) != 1 + 2 * ((r.1.1.length : Nat) : Int)) = false := bne_self_eq_false _
      simp only [hsz, c, if_neg ff, e, Option.bind_some, c1]
      refine Ev.bind hT (Ev.bind r3 (Ev.bind hT (Ev.bind r2 (Ev.bind hR ?_))))
      simp only [b1, b2, seq_refl, if_neg ff]
      refine Ev.bind hT (Ev.bind hE ?_)
      simp only [b1, if_neg ff]
      refine Ev.bind hM ?_
      simp only [c2, if_neg ff]
      refine Ev.bind hR ?_
      simp only [b1, b2, seq_refl, if_neg ff]
      refine Ev.bind hMr (Ev.bind hH ?_)
      simp only [c3, b3, if_neg ff]
      refine Ev.bind hT (Ev.bind r2 (Ev.bind hR ?_))
      simp only [b1, b2, seq_refl, if_neg ff]
      refine Ev.bind hH ?_
      simp only [c3, b3, if_neg ff]
      exact Ev.now _
end Go.Proofs.YtdhkgmhdengnkaaGreatDoor.Dl
