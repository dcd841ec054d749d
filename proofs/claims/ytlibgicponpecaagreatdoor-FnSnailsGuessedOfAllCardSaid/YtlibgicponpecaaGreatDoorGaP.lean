import Derived.Test.YtlibgicponpecaaGreatDoorPc
import Derived.Test.YtlibgicponpecaaGreatDoorGaF3
namespace Go.Proofs.YtlibgicponpecaaGreatDoor.Ga
open Go Go.Proofs.YtlibgicponpecaaGreatDoorPi Go.RowKit
set_option linter.unusedVariables false
set_option linter.unusedSimpArgs false
/-! ### base -/
theorem castsub {i : Nat} : ((i : Int)).toNat = i := by omega
theorem cs1 (i : Nat) : ((i : Int) + 1) = ((i + 1 : Nat) : Int) := by omega
abbrev Clu := Int × Int × Int
abbrev Clu.f0 (v : Clu) : Int := v.1
abbrev Clu.f1 (v : Clu) : Int := v.2.1
abbrev Clu.f2 (v : Clu) : Int := v.2.2
abbrev Sna := Int × Int
abbrev Sna.f0 (v : Sna) : Int := v.1
abbrev Sna.f1 (v : Sna) : Int := v.2
/-! ### impl_within -/
theorem impl_within_eq (a b c : Int) : impl_within.f a b c = some (decide (b ≤ a ∧ a ≤ c)) := by
  simp only [impl_within.f, decide_eq_true_eq, Bool.not_eq_true', Bool.not_eq_false', beq_iff_eq, bne_iff_ne, ne_eq, beq_eq_false_iff_ne, bne_eq_false_iff_eq, decide_eq_false_iff_not, Option.bind_some, dlen, dlenN]
  split
  · exact congrArg some (dec_e (by omega))
  · rw [dec_f (by omega)]
/-! ### spec_pzClue0 -/
/-- Whether three numbers are a clue. -/
def clueOk (kind a b : Int) : Bool :=
  if kind = 0 then decide ((1 ≤ a ∧ a ≤ 100) ∧ 0 ≤ b ∧ b ≤ 100) else if kind = 1 then decide ((1 ≤ a ∧ a ≤ 100) ∧ 1 ≤ b ∧ b ≤ 100) else if kind = 2 then decide (a = 0 ∧ 0 ≤ b ∧ b ≤ 24)
  else if kind = 3 then decide ((2 ≤ a ∧ a ≤ 9) ∧ 0 ≤ b ∧ b ≤ 1) else decide (kind = 4 ∧ a = 0 ∧ -12 ≤ b ∧ b ≤ 12)
theorem clue_and (p q : Prop) [Decidable p] [Decidable q] : (if p then some (decide q) else some false) = some (decide (p ∧ q)) := by
  by_cases hp : p <;> simp [hp]
/-! ### impl_IsClue -/
theorem impl_IsClue_eq (kind a b : Int) : impl_IsClue.f kind a b = some (clueOk kind a b) := by
  simp only [impl_IsClue.b, impl_IsClue.f, impl_within_eq, decide_eq_true_eq, Bool.not_eq_true', Bool.not_eq_false', beq_iff_eq, bne_iff_ne, ne_eq, beq_eq_false_iff_ne, bne_eq_false_iff_eq, decide_eq_false_iff_not, Option.bind_some, dlen, dlenN, clue_and]
  unfold clueOk
  by_cases h0 : kind = 0
  · rw [if_pos h0, if_pos h0]
  · rw [if_neg h0, if_neg h0]
    by_cases h1 : kind = 1
    · rw [if_pos h1, if_pos h1]
    · rw [if_neg h1, if_neg h1]
      by_cases h2 : kind = 2
      · rw [if_pos h2, if_pos h2]
      · rw [if_neg h2, if_neg h2]
        by_cases h3 : kind = 3
        · rw [if_pos h3, if_pos h3]
        · rw [if_neg h3, if_neg h3]
/-! ### base_list -/
theorem drop_cons {α : Type} (z : α) {l : List α} {i : Nat} (h : i < l.length) : l.drop i = l.getD i z :: l.drop (i + 1) := by
  rw [List.drop_eq_getElem_cons h, List.getD_eq_getElem?_getD, List.getElem?_eq_getElem h]; rfl
theorem take_snoc' {α : Type} (z : α) {l : List α} {i : Nat} (h : i < l.length) : l.take (i + 1) = l.take i ++ [l.getD i z] := by
  rw [List.take_succ_eq_append_getElem h, List.getD_eq_getElem?_getD, List.getElem?_eq_getElem h]; rfl
/-- A row that is filled place by place. -/
theorem fill_step {α β : Type} (g : α → β) (za : α) (zb : β) {l : List α} {i : Nat} (h : i < l.length) :
    ((l.take i).map g ++ List.replicate (l.length - i) zb).set i (g (l.getD i za)) = (l.take (i + 1)).map g ++ List.replicate (l.length - (i + 1)) zb := by
  rw [take_snoc' za h, List.map_append, List.set_append_right _ _ (by simp; omega)]
  have e : i - ((l.take i).map g).length = 0 := by simp; omega
  rw [e, show l.length - i = (l.length - (i + 1)) + 1 by omega, List.replicate_succ, List.set_cons_zero]
  simp
theorem fill_len {α β : Type} (g : α → β) (zb : β) {l : List α} {i : Nat} (h : i ≤ l.length) : ((l.take i).map g ++ List.replicate (l.length - i) zb).length = l.length := by
  simp; omega
/-! ### base_clue -/
/-- A clue that is one. -/
def cGood (v : Clu) : Bool := clueOk v.f0 v.f1 v.f2
def cluOk (l : List Clu) : Bool := decide (l.length ≤ 6) && l.all cGood
/-! ### impl_IsPuzzle -/
theorem impl_IsPuzzle_1_eq (a b c : Int) : impl_IsPuzzle_1.f a b c = some (!cGood (a, b, c)) := by
  simp only [impl_IsPuzzle_1.b, impl_IsPuzzle_1.f, impl_IsClue_eq, Option.bind_some, cGood]
theorem IndexFunc_Clue_loop {l : List Clu} (hl : l.length ≤ 6) (d : Nat) : ∀ i : Nat, i + d = l.length →
    ∃ r : Int, Ev (fun k => slices_IndexFunc_impl_Clue_impl_Clue_impl_IsPuzzle_1.l0 k l (l.length : Int) (i : Int)) r ∧ (!decide (r ≥ 0)) = (l.drop i).all cGood := by
  induction d with
  | zero =>
    intro i hi
    rw [List.drop_eq_nil_of_le (by omega)]
    refine ⟨-1, ev_s ?_, rfl⟩
    simp only [slices_IndexFunc_impl_Clue_impl_Clue_impl_IsPuzzle_1.b0, slices_IndexFunc_impl_Clue_impl_Clue_impl_IsPuzzle_1.l0, decide_eq_true_eq, Bool.not_eq_true', Bool.not_eq_false', beq_iff_eq, bne_iff_ne, ne_eq, beq_eq_false_iff_ne, bne_eq_false_iff_eq, decide_eq_false_iff_not, Option.bind_some, dlen, dlenN, if_neg (show ¬ (i : Int) < l.length by omega)]
    exact Ev.now _
  | succ d ih =>
    intro i hi
    obtain ⟨r, h, hr⟩ := ih (i + 1) (by omega)
    rw [drop_cons ((0, 0, 0) : Clu) (show i < l.length by omega), List.all_cons, ← hr]
    have step : ∀ r', Ev (fun k => if (!cGood (l.getD i (0, 0, 0))) = true then some (i : Int) else slices_IndexFunc_impl_Clue_impl_Clue_impl_IsPuzzle_1.l0 k l (l.length : Int) ((i + 1 : Nat) : Int)) r' → Ev (fun k => slices_IndexFunc_impl_Clue_impl_Clue_impl_IsPuzzle_1.l0 k l (l.length : Int) (i : Int)) r' := by
      intro r' h'
      refine ev_s ?_
      simp (disch := omega) only [slices_IndexFunc_impl_Clue_impl_Clue_impl_IsPuzzle_1.b0, slices_IndexFunc_impl_Clue_impl_Clue_impl_IsPuzzle_1.l0, dlen, decide_eq_true_eq, if_pos (show (i : Int) < l.length by omega), if_pos (show 0 ≤ (i : Int) by omega), rd_nat, impl_IsPuzzle_1_eq, Option.bind_some, w64, cs1]
      exact h'
    cases hv : cGood (l.getD i (0, 0, 0)) with
    | true =>
      refine ⟨r, step r ?_, by simp⟩
      rw [hv]
      exact h
    | false =>
      refine ⟨i, step i ?_, by simp⟩
      rw [hv]
      exact Ev.now _
theorem impl_IsPuzzle_eq (l : List Clu) : Ev (fun k => impl_IsPuzzle.f k l) (cluOk l) := by
  unfold cluOk
  simp only [impl_IsPuzzle.b, impl_IsPuzzle.f, dlen, decide_eq_true_eq]
  by_cases h : l.length ≤ 6
  · simp only [if_pos (show (l.length : Int) ≤ 6 by omega), dec_t h, Bool.true_and]
    obtain ⟨r, h1, h2⟩ := IndexFunc_Clue_loop h l.length 0 (by omega)
    rw [List.drop_zero] at h2
    rw [← h2]
    simp only [slices_ContainsFunc_impl_Clue_impl_Clue_impl_IsPuzzle_1.b, slices_ContainsFunc_impl_Clue_impl_Clue_impl_IsPuzzle_1.f, slices_IndexFunc_impl_Clue_impl_Clue_impl_IsPuzzle_1.b, slices_IndexFunc_impl_Clue_impl_Clue_impl_IsPuzzle_1.f]
    exact Ev.bind (Ev.bind h1 (Ev.now _)) (Ev.now _)
  · simp only [if_neg (show ¬ ((l.length : Int) ≤ 6) by omega), dec_f h, Bool.false_and]
    exact Ev.now _
/-! ### base_told -/
def hidOk (up dn : Int) : Prop := (1 ≤ up ∧ up ≤ 12) ∧ 0 ≤ dn ∧ dn ≤ 12
instance (up dn : Int) : Decidable (hidOk up dn) := by unfold hidOk; infer_instance
/-- A clue's number is in its range. -/
def aOk (kind a : Int) : Prop := ((kind = 0 ∨ kind = 1) → 1 ≤ a ∧ a ≤ 100) ∧ (kind = 3 → 2 ≤ a ∧ a ≤ 9)
theorem aOk_of {kind a b : Int} (h : clueOk kind a b = true) : aOk kind a := by
  unfold clueOk at h
  unfold aOk
  split at h
  · have := of_decide_eq_true h; omega
  · split at h
    · have := of_decide_eq_true h; omega
    · split at h
      · omega
      · split at h
        · have := of_decide_eq_true h; omega
        · omega
/-- What a clue of a kind, with a number, tells of a snail. -/
def told (kind a up dn : Int) : Int :=
  if kind = 0 then (if a ≤ up then 1 else if up ≤ dn then 0 else 1 + Int.tdiv (a - up + (up - dn) - 1) (up - dn))
  else if kind = 1 then min 100 (if up ≤ dn then up else up + (a - 1) * (up - dn))
  else if kind = 2 then up + dn
  else if kind = 3 then (if Int.tmod up a = 0 then 1 else 0)
  else up - dn
theorem day_bd {a up dn : Int} (h : hidOk up dn) (ha : 1 ≤ a ∧ a ≤ 100) : -1000 ≤ Int.tdiv (a - up + (up - dn) - 1) (up - dn) ∧ Int.tdiv (a - up + (up - dn) - 1) (up - dn) ≤ 1000 := by
  unfold hidOk at h
  have h1 : Int.natAbs (Int.tdiv (a - up + (up - dn) - 1) (up - dn)) ≤ Int.natAbs (a - up + (up - dn) - 1) := by
    rw [Int.natAbs_tdiv]; exact Nat.div_le_self _ _
  omega
/-! ### impl_toldBy -/
theorem impl_toldBy_eq {kind a b up dn : Int} (h : hidOk up dn) (ha : aOk kind a) : impl_toldBy.f kind a b up dn = some (told kind a up dn) := by
  have h' := h
  unfold hidOk at h'
  unfold aOk at ha
  unfold told
  simp only [impl_toldBy.b, impl_toldBy.f, decide_eq_true_eq, Bool.not_eq_true', Bool.not_eq_false', beq_iff_eq, bne_iff_ne, ne_eq, beq_eq_false_iff_ne, bne_eq_false_iff_eq, decide_eq_false_iff_not, Option.bind_some, dlen, dlenN]
  by_cases k0 : kind = 0
  · have ha0 := ha.1 (.inl k0)
    have hd := day_bd h ha0
    simp only [if_pos k0, impl_dayOfHeight.f, decide_eq_true_eq, Bool.not_eq_true', Bool.not_eq_false', beq_iff_eq, bne_iff_ne, ne_eq, beq_eq_false_iff_ne, bne_eq_false_iff_eq, decide_eq_false_iff_not, Option.bind_some, dlen, dlenN]
    by_cases c1 : a ≤ up
    · simp only [if_pos c1, Option.bind_some]
    · by_cases c2 : up ≤ dn
      · simp only [if_neg c1, if_pos c2, Option.bind_some]
      · simp (disch := omega) only [if_neg c1, if_neg c2, w64, if_neg (show ¬ up - dn = 0 by omega), Option.bind_some]
  · by_cases k1 : kind = 1
    · have ha0 := ha.1 (.inr k1)
      simp only [if_neg k0, if_pos k1, impl_eveningHeight.b, impl_eveningHeight.f, impl_reachOf.f, decide_eq_true_eq, Bool.not_eq_true', Bool.not_eq_false', beq_iff_eq, bne_iff_ne, ne_eq, beq_eq_false_iff_ne, bne_eq_false_iff_eq, decide_eq_false_iff_not, Option.bind_some, dlen, dlenN, mx_eq, mn_eq]
      have m1 := mulb (a := a - 1) (b := max 0 (up - dn)) (A := 100) (B := 12) (by omega) (by omega) (by omega) (by omega)
      rw [w64 (x := up - dn) (by omega) (by omega), w64 (x := a - 1) (by omega) (by omega), Int.mul_comm (max 0 (up - dn)), w64 (x := (a - 1) * max 0 (up - dn)) (by omega) (by omega), w64 (by omega) (by omega)]
      by_cases c2 : up ≤ dn
      · rw [if_pos c2, show max 0 (up - dn) = 0 by omega, Int.mul_zero, Int.add_zero]
      · rw [if_neg c2, show max 0 (up - dn) = up - dn by omega]
    · by_cases k2 : kind = 2
      · simp (disch := omega) only [if_neg k0, if_neg k1, if_pos k2, w64]
      · by_cases k3 : kind = 3
        · have ha3 := ha.2 k3
          simp only [if_neg k0, if_neg k1, if_neg k2, if_pos k3, if_neg (show ¬ a = 0 by omega)]
          by_cases c : Int.tmod up a = 0
          · simp only [if_pos c]
          · simp only [if_neg c]
        · simp (disch := omega) only [if_neg k0, if_neg k1, if_neg k2, if_neg k3, w64]
/-! ### base_fit -/
def fitSays (kind a b up dn : Int) : Bool × Bool := if hidOk up dn ∧ clueOk kind a b = true then (told kind a up dn == b, true) else (false, false)
/-! ### impl_doesFit -/
theorem impl_doesFit_eq {kind a b up dn : Int} (h : hidOk up dn) (ha : aOk kind a) : impl_doesFit.f kind a b up dn = some (told kind a up dn == b) := by
  simp only [impl_doesFit.b, impl_doesFit.f, impl_toldBy_eq h ha, Option.bind_some]
/-! ### base_aall -/
/-- A list whose clues' numbers are in their ranges. -/
def aAll (l : List Clu) : Prop := l.length ≤ 6 ∧ ∀ v ∈ l, aOk v.f0 v.f1
theorem aAll_of {l : List Clu} (h : cluOk l = true) : aAll l := by
  unfold cluOk at h
  rw [Bool.and_eq_true, List.all_eq_true] at h
  exact ⟨of_decide_eq_true h.1, fun v hv => aOk_of (h.2 v hv)⟩
theorem aAll_at {l : List Clu} (h : aAll l) {i : Nat} (hi : i < l.length) : aOk (l.getD i ((0, 0, 0) : Clu)).f0 (l.getD i ((0, 0, 0) : Clu)).f1 := by
  refine h.2 _ ?_
  rw [List.getD_eq_getElem?_getD, List.getElem?_eq_getElem hi]
  exact List.getElem_mem hi
/-! ### base_sols -/
/-- A snail fits all clues of a list. -/
def fitAll (l : List Clu) (up dn : Int) : Bool := l.all fun v => told v.f0 v.f1 up dn == v.f2
/-- The snails of one Up that fit, from one Down on, so many. -/
def solD (l : List Clu) (up : Int) : Nat → Int → List Sna
  | 0, _ => []
  | d + 1, j => (if fitAll l up j = true then [⟨up, j⟩] else []) ++ solD l up d (j + 1)
def solU (l : List Clu) : Nat → Int → List Sna
  | 0, _ => []
  | d + 1, i => solD l i 13 0 ++ solU l d (i + 1)
/-- All hidden snails that fit, in order. -/
def sols (l : List Clu) : List Sna := solU l 12 1
theorem solD_len (l : List Clu) (up : Int) (d : Nat) : ∀ j, (solD l up d j).length ≤ d := by
  induction d with
  | zero => intro j; simp [solD]
  | succ d ih =>
    intro j
    have := ih (j + 1)
    rw [solD, List.length_append]
    split <;> simp <;> omega
theorem solU_len (l : List Clu) (d : Nat) : ∀ i, (solU l d i).length ≤ 13 * d := by
  induction d with
  | zero => intro i; simp [solU]
  | succ d ih =>
    intro i
    have := ih (i + 1)
    have := solD_len l i 13 0
    rw [solU, List.length_append]
    omega
theorem sols_len (l : List Clu) : (sols l).length ≤ 156 := solU_len l 12 1
/-! ### impl_solutions -/
theorem impl_solutions_1_eq {up dn : Int} (h : hidOk up dn) {a b c : Int} (hv : aOk a b) : impl_solutions_1.f a b c up dn = some (!(told a b up dn == c)) := by
  simp only [impl_solutions_1.b, impl_solutions_1.f, impl_doesFit_eq h hv, Option.bind_some]
theorem IndexFunc_sol_loop {l : List Clu} (hl : aAll l) {up dn : Int} (h : hidOk up dn) (d : Nat) : ∀ i : Nat, i + d = l.length →
    ∃ r : Int, Ev (fun k => slices_IndexFunc_impl_Clue_impl_Clue_impl_solutions_1.l0 k l up dn (l.length : Int) (i : Int)) r ∧ (!decide (r ≥ 0)) = fitAll (l.drop i) up dn := by
  have hlen := hl.1
  induction d with
  | zero =>
    intro i hi
    rw [List.drop_eq_nil_of_le (by omega)]
    refine ⟨-1, ev_s ?_, rfl⟩
    simp only [slices_IndexFunc_impl_Clue_impl_Clue_impl_solutions_1.b0, slices_IndexFunc_impl_Clue_impl_Clue_impl_solutions_1.l0, decide_eq_true_eq, Bool.not_eq_true', Bool.not_eq_false', beq_iff_eq, bne_iff_ne, ne_eq, beq_eq_false_iff_ne, bne_eq_false_iff_eq, decide_eq_false_iff_not, Option.bind_some, dlen, dlenN, if_neg (show ¬ (i : Int) < l.length by omega)]
    exact Ev.now _
  | succ d ih =>
    intro i hi
    obtain ⟨r, hE, hr⟩ := ih (i + 1) (by omega)
    rw [fitAll, drop_cons ((0, 0, 0) : Clu) (show i < l.length by omega), List.all_cons]
    have step : ∀ r', Ev (fun k => if (!(told (l.getD i (0, 0, 0)).1 (l.getD i (0, 0, 0)).2.1 up dn == (l.getD i (0, 0, 0)).2.2)) = true then some (i : Int) else slices_IndexFunc_impl_Clue_impl_Clue_impl_solutions_1.l0 k l up dn (l.length : Int) ((i + 1 : Nat) : Int)) r' → Ev (fun k => slices_IndexFunc_impl_Clue_impl_Clue_impl_solutions_1.l0 k l up dn (l.length : Int) (i : Int)) r' := by
      intro r' h'
      refine ev_s ?_
      simp (disch := omega) only [slices_IndexFunc_impl_Clue_impl_Clue_impl_solutions_1.b0, slices_IndexFunc_impl_Clue_impl_Clue_impl_solutions_1.l0, dlen, decide_eq_true_eq, if_pos (show (i : Int) < l.length by omega), if_pos (show 0 ≤ (i : Int) by omega), rd_nat, impl_solutions_1_eq h (aAll_at hl (show i < l.length by omega)), Option.bind_some, w64, cs1]
      exact h'
    cases hv : (told (l.getD i (0, 0, 0)).1 (l.getD i (0, 0, 0)).2.1 up dn == (l.getD i (0, 0, 0)).2.2) with
    | true =>
      refine ⟨r, step r ?_, by rw [hr]; simp [fitAll]⟩
      rw [hv]
      exact hE
    | false =>
      refine ⟨i, step i ?_, by simp⟩
      rw [hv]
      exact Ev.now _
theorem ContainsFunc_sol_eq {l : List Clu} (hl : aAll l) {up dn : Int} (h : hidOk up dn) : Ev (fun k => slices_ContainsFunc_impl_Clue_impl_Clue_impl_solutions_1.f k l up dn) (!fitAll l up dn) := by
  obtain ⟨r, h1, h2⟩ := IndexFunc_sol_loop hl h l.length 0 (by omega)
  rw [List.drop_zero] at h2
  rw [← h2, Bool.not_not]
  simp only [slices_ContainsFunc_impl_Clue_impl_Clue_impl_solutions_1.b, slices_ContainsFunc_impl_Clue_impl_Clue_impl_solutions_1.f, slices_IndexFunc_impl_Clue_impl_Clue_impl_solutions_1.b, slices_IndexFunc_impl_Clue_impl_Clue_impl_solutions_1.f]
  exact Ev.bind h1 (Ev.now _)
theorem impl_solutions_l1 {l : List Clu} (hl : aAll l) {up : Int} (h : 1 ≤ up ∧ up ≤ 12) {R : List Sna} (d : Nat) : ∀ (j : Int) (acc : List Sna), 0 ≤ j → j + d = 13 → acc.length + d ≤ 1000 →
    Ev (fun k => impl_solutions.l0 k l (up + 1) (acc ++ solD l up d j)) R → Ev (fun k => impl_solutions.l1 k l up j acc) R := by
  induction d with
  | zero =>
    intro j acc h0 hj ha hR
    refine ev_s ?_
    simp (disch := omega) only [impl_solutions.b1, impl_solutions.l1, decide_eq_true_eq, Bool.not_eq_true', Bool.not_eq_false', beq_iff_eq, bne_iff_ne, ne_eq, beq_eq_false_iff_ne, bne_eq_false_iff_eq, decide_eq_false_iff_not, Option.bind_some, dlen, dlenN, if_neg (show ¬ j < 13 by omega), w64]
    simpa [solD] using hR
  | succ d ih =>
    intro j acc h0 hj ha hR
    refine ev_s ?_
    simp only [impl_solutions.b1, impl_solutions.l1, decide_eq_true_eq, Bool.not_eq_true', Bool.not_eq_false', beq_iff_eq, bne_iff_ne, ne_eq, beq_eq_false_iff_ne, bne_eq_false_iff_eq, decide_eq_false_iff_not, Option.bind_some, dlen, dlenN, if_pos (show j < 13 by omega)]
    refine Ev.bind (ContainsFunc_sol_eq hl (show hidOk up j by unfold hidOk; omega)) ?_
    rw [solD, ← List.append_assoc] at hR
    cases hf : fitAll l up j with
    | true =>
      rw [hf] at hR
      simp (disch := omega) only [Bool.not_true, if_true, if_pos (show acc.length + 1 ≤ 8796093022208 by omega), w64]
      refine ih (j + 1) _ (by omega) (by omega) (by simp; omega) ?_
      simpa using hR
    | false =>
      rw [hf] at hR
      simp (disch := omega) only [Bool.not_false, Bool.true_eq_false, if_false, w64]
      refine ih (j + 1) _ (by omega) (by omega) (by omega) ?_
      simpa using hR
theorem impl_solutions_l0 {l : List Clu} (hl : aAll l) (d : Nat) : ∀ (i : Int) (acc : List Sna), 1 ≤ i → i + d = 13 → acc.length + 13 * d ≤ 1000 →
    Ev (fun k => impl_solutions.l0 k l i acc) (acc ++ solU l d i) := by
  induction d with
  | zero =>
    intro i acc h0 hi ha
    refine ev_s ?_
    simp only [impl_solutions.b0, impl_solutions.l0, decide_eq_true_eq, Bool.not_eq_true', Bool.not_eq_false', beq_iff_eq, bne_iff_ne, ne_eq, beq_eq_false_iff_ne, bne_eq_false_iff_eq, decide_eq_false_iff_not, Option.bind_some, dlen, dlenN, if_neg (show ¬ i ≤ 12 by omega)]
    exact ev_now (by simp [solU])
  | succ d ih =>
    intro i acc h0 hi ha
    have hb := solD_len l i 13 0
    refine ev_s ?_
    simp only [impl_solutions.b0, impl_solutions.l0, decide_eq_true_eq, Bool.not_eq_true', Bool.not_eq_false', beq_iff_eq, bne_iff_ne, ne_eq, beq_eq_false_iff_ne, bne_eq_false_iff_eq, decide_eq_false_iff_not, Option.bind_some, dlen, dlenN, if_pos (show i ≤ 12 by omega)]
    refine impl_solutions_l1 hl (by omega) 13 0 acc (by omega) (by omega) (by omega) ?_
    rw [solU, ← List.append_assoc]
    exact ih (i + 1) _ (by omega) (by omega) (by rw [List.length_append]; omega)
theorem impl_solutions_eq {l : List Clu} (hl : aAll l) : Ev (fun k => impl_solutions.f k l) (sols l) :=
  impl_solutions_l0 hl 12 1 [] (by omega) (by omega) (by simp)
/-! ### base_solved -/
def solvedSays (l : List Clu) : Bool × Bool := if cluOk l = true then (((sols l).length : Int) == 1, true) else (false, false)
def firstSays (l : List Clu) : Int × Int × Bool :=
  if cluOk l = true then (if ((sols l).length : Int) = 0 then (0, 0, false) else ((rd ((0, 0) : Sna) (sols l) 0).1, (rd ((0, 0) : Sna) (sols l) 0).2, true)) else (0, 0, false)
def sureGo : List Sna → Int → Int → Int × Int × Bool
  | [], a, b => (a, b, true)
  | s :: t, a, b => sureGo t (if s.f0 = a then a else -1) (if s.f1 = b then b else -1)
def sureSays (l : List Clu) : Int × Int × Bool :=
  if cluOk l = true then (if ((sols l).length : Int) = 0 then (0, 0, false) else sureGo (sols l) (rd ((0, 0) : Sna) (sols l) 0).1 (rd ((0, 0) : Sna) (sols l) 0).2) else (0, 0, false)
def solsSays (l : List Clu) : List Sna × Bool := if cluOk l = true then (sols l, true) else ([], false)
theorem solsSays_len (l : List Clu) : (solsSays l).1.length ≤ 156 := by
  unfold solsSays
  split
  · exact sols_len l
  · simp
/-! ### impl_Solutions -/
theorem impl_Solutions_eq (l : List Clu) : Ev (fun k => impl_Solutions.f k l) (solsSays l) := by
  unfold impl_Solutions.f impl_Solutions.b solsSays
  refine Ev.bind (impl_IsPuzzle_eq l) ?_
  by_cases h : cluOk l = true
  · simp only [h, Bool.not_true, Bool.false_eq_true, if_false, if_true]
    exact Ev.bind (impl_solutions_eq (aAll_of h)) (Ev.now _)
  · rw [Bool.not_eq_true] at h
    simp only [h, Bool.not_false, if_true, Bool.false_eq_true, if_false]
    exact Ev.now _
/-! ### spec_l1In -/
theorem spec_l1In_eq (a b c : Int) : spec_l1In.f a b c = some (decide (b ≤ a ∧ a ≤ c)) := by
  simp only [spec_l1In.f, decide_eq_true_eq, Bool.not_eq_true', Bool.not_eq_false', beq_iff_eq, bne_iff_ne, ne_eq, beq_eq_false_iff_ne, bne_eq_false_iff_eq, decide_eq_false_iff_not, Option.bind_some, dlen, dlenN]
  split
  · exact congrArg some (dec_e (by omega))
  · rw [dec_f (by omega)]
/-! ### spec_pzClue -/
theorem spec_pzClue_eq (kind a b : Int) : spec_pzClue.f kind a b = some (clueOk kind a b) := by
  simp only [spec_pzClue.b, spec_pzClue.f, spec_l1In_eq, decide_eq_true_eq, Bool.not_eq_true', Bool.not_eq_false', beq_iff_eq, bne_iff_ne, ne_eq, beq_eq_false_iff_ne, bne_eq_false_iff_eq, decide_eq_false_iff_not, Option.bind_some, dlen, dlenN, clue_and]
  unfold clueOk
  by_cases h0 : kind = 0
  · rw [if_pos h0, if_pos h0]
  · rw [if_neg h0, if_neg h0]
    by_cases h1 : kind = 1
    · rw [if_pos h1, if_pos h1]
    · rw [if_neg h1, if_neg h1]
      by_cases h2 : kind = 2
      · rw [if_pos h2, if_pos h2]
      · rw [if_neg h2, if_neg h2]
        by_cases h3 : kind = 3
        · rw [if_pos h3, if_pos h3]
        · rw [if_neg h3, if_neg h3]
/-! ### spec_pzGood -/
theorem spec_pzGood_loop {l : List Clu} (hl : l.length ≤ 6) (d : Nat) : ∀ i : Nat, i + d = l.length →
    Ev (fun k => spec_pzGood.l0 k l (l.length : Int) (i : Int)) ((l.drop i).all cGood) := by
  induction d with
  | zero =>
    intro i hi
    rw [List.drop_eq_nil_of_le (by omega)]
    refine ev_s ?_
    simp only [spec_pzGood.b0, spec_pzGood.l0, decide_eq_true_eq, Bool.not_eq_true', Bool.not_eq_false', beq_iff_eq, bne_iff_ne, ne_eq, beq_eq_false_iff_ne, bne_eq_false_iff_eq, decide_eq_false_iff_not, Option.bind_some, dlen, dlenN, if_neg (show ¬ (i : Int) < l.length by omega)]
    exact Ev.now _
  | succ d ih =>
    intro i hi
    have h := ih (i + 1) (by omega)
    rw [drop_cons ((0, 0, 0) : Clu) (show i < l.length by omega), List.all_cons]
    refine ev_s ?_
    simp (disch := omega) only [spec_pzGood.b0, spec_pzGood.l0, dlen, decide_eq_true_eq, if_pos (show (i : Int) < l.length by omega), if_pos (show 0 ≤ (i : Int) by omega), rd_nat, spec_pzClue_eq, Option.bind_some, w64, cs1]
    simp only [show clueOk (l.getD i (0, 0, 0)).1 (l.getD i (0, 0, 0)).2.1 (l.getD i (0, 0, 0)).2.2 = cGood (l.getD i (0, 0, 0)) from rfl]
    cases hv : cGood (l.getD i (0, 0, 0)) with
    | true => simpa using h
    | false => simpa using Ev.now _
theorem spec_pzGood_eq (l : List Clu) : Ev (fun k => spec_pzGood.f k l) (cluOk l) := by
  unfold cluOk
  simp only [spec_pzGood.b, spec_pzGood.f, dlen, decide_eq_true_eq]
  by_cases h : l.length ≤ 6
  · simp only [if_neg (show ¬ ((l.length : Int) > 6) by omega), dec_t h, Bool.true_and]
    exact spec_pzGood_loop h l.length 0 (by omega)
  · simp only [if_pos (show (l.length : Int) > 6 by omega), dec_f h, Bool.false_and]
    exact Ev.now _
/-! ### spec_l1Least -/
theorem spec_l1Least_eq (a b : Int) : spec_l1Least.f a b = some (min a b) := by
  simp only [spec_l1Least.f, decide_eq_true_eq, Bool.not_eq_true', Bool.not_eq_false', beq_iff_eq, bne_iff_ne, ne_eq, beq_eq_false_iff_ne, bne_eq_false_iff_eq, decide_eq_false_iff_not, Option.bind_some, dlen, dlenN]
  split <;> exact congrArg some (by omega)
/-! ### spec_pzValue -/
theorem spec_pzValue_eq {kind a up dn : Int} (h : hidOk up dn) (ha : aOk kind a) : spec_pzValue.f kind a up dn = some (told kind a up dn) := by
  have h' := h
  unfold hidOk at h'
  unfold aOk at ha
  unfold told
  simp only [spec_pzValue.b, spec_pzValue.f, decide_eq_true_eq, Bool.not_eq_true', Bool.not_eq_false', beq_iff_eq, bne_iff_ne, ne_eq, beq_eq_false_iff_ne, bne_eq_false_iff_eq, decide_eq_false_iff_not, Option.bind_some, dlen, dlenN]
  by_cases k0 : kind = 0
  · have ha0 := ha.1 (.inl k0)
    have hd := day_bd h ha0
    simp only [if_pos k0, spec_snCan.f, spec_snDays.f, decide_eq_true_eq, Bool.not_eq_true', Bool.not_eq_false', beq_iff_eq, bne_iff_ne, ne_eq, beq_eq_false_iff_ne, bne_eq_false_iff_eq, decide_eq_false_iff_not, Option.bind_some, dlen, dlenN]
    by_cases c1 : a ≤ up
    · simp only [if_pos (show up ≥ a from c1), if_pos c1, Option.bind_some, decide_eq_true_eq, Bool.not_eq_true', Bool.not_eq_false', beq_iff_eq, bne_iff_ne, ne_eq, beq_eq_false_iff_ne, bne_eq_false_iff_eq, decide_eq_false_iff_not, Option.bind_some, dlen, dlenN, reduceCtorEq, if_false, decide_true, if_true]
    · by_cases c2 : up ≤ dn
      · simp only [if_neg (show ¬ up ≥ a from c1), if_neg c1, if_pos c2, Option.bind_some, decide_eq_true_eq, Bool.not_eq_true', Bool.not_eq_false', beq_iff_eq, bne_iff_ne, ne_eq, beq_eq_false_iff_ne, bne_eq_false_iff_eq, decide_eq_false_iff_not, Option.bind_some, dlen, dlenN, if_pos (show ¬ up > dn by omega)]
      · simp (disch := omega) only [if_neg (show ¬ up ≥ a from c1), if_neg c1, if_neg c2, Option.bind_some, decide_eq_true_eq, Bool.not_eq_true', Bool.not_eq_false', beq_iff_eq, bne_iff_ne, ne_eq, beq_eq_false_iff_ne, bne_eq_false_iff_eq, decide_eq_false_iff_not, Option.bind_some, dlen, dlenN, if_neg (show ¬ ¬ up > dn by omega), w64, if_neg (show ¬ up - dn = 0 by omega)]
  · by_cases k1 : kind = 1
    · have ha0 := ha.1 (.inr k1)
      simp only [if_neg k0, if_pos k1, spec_snEvening.f, decide_eq_true_eq, Bool.not_eq_true', Bool.not_eq_false', beq_iff_eq, bne_iff_ne, ne_eq, beq_eq_false_iff_ne, bne_eq_false_iff_eq, decide_eq_false_iff_not, Option.bind_some, dlen, dlenN]
      by_cases c2 : up ≤ dn
      · simp only [if_pos (show dn ≥ up from c2), if_pos c2, Option.bind_some, spec_l1Least_eq]
      · have m1 := mulb (a := a - 1) (b := up - dn) (A := 100) (B := 12) (by omega) (by omega) (by omega) (by omega)
        simp (disch := omega) only [if_neg (show ¬ dn ≥ up from c2), if_neg c2, Option.bind_some, spec_l1Least_eq, w64]
    · by_cases k2 : kind = 2
      · simp (disch := omega) only [if_neg k0, if_neg k1, if_pos k2, w64]
      · by_cases k3 : kind = 3
        · have ha3 := ha.2 k3
          simp only [if_neg k0, if_neg k1, if_neg k2, if_pos k3, if_neg (show ¬ a = 0 by omega)]
          by_cases c : Int.tmod up a = 0
          · simp only [if_pos c]
          · simp only [if_neg c]
        · simp (disch := omega) only [if_neg k0, if_neg k1, if_neg k2, if_neg k3, w64]
/-! ### spec_pzAll -/
theorem spec_pzFits_eq {kind a b up dn : Int} (h : hidOk up dn) (ha : aOk kind a) : spec_pzFits.f kind a b up dn = some (told kind a up dn == b) := by
  simp only [spec_pzFits.b, spec_pzFits.f, spec_pzValue_eq h ha, Option.bind_some]
theorem spec_pzAll_l2 {l : List Clu} (hl : aAll l) {up dn : Int} (h : hidOk up dn) {acc : List Sna} (hacc : acc.length ≤ 1000) {R : List Sna} (d : Nat) : ∀ (i : Nat) (b : Bool), i + d = l.length →
    Ev (fun k => spec_pzAll.l1 k l up (dn + 1) (acc ++ if (b && fitAll (l.drop i) up dn) = true then [(up, dn)] else [])) R →
    Ev (fun k => spec_pzAll.l2 k l up dn b l (l.length : Int) (i : Int) acc up dn) R := by
  have h' := h
  unfold hidOk at h'
  induction d with
  | zero =>
    intro i b hi hR
    rw [List.drop_eq_nil_of_le (by omega)] at hR
    refine ev_s ?_
    cases b with
    | true =>
      simp (disch := omega) only [spec_pzAll.b2, spec_pzAll.l2, decide_eq_true_eq, Bool.not_eq_true', Bool.not_eq_false', beq_iff_eq, bne_iff_ne, ne_eq, beq_eq_false_iff_ne, bne_eq_false_iff_eq, decide_eq_false_iff_not, Option.bind_some, dlen, dlenN, if_neg (show ¬ (i : Int) < l.length by omega), if_true, if_pos (show acc.length + 1 ≤ 8796093022208 by omega), w64]
      simpa [fitAll] using hR
    | false =>
      simp (disch := omega) only [spec_pzAll.b2, spec_pzAll.l2, decide_eq_true_eq, Bool.not_eq_true', Bool.not_eq_false', beq_iff_eq, bne_iff_ne, ne_eq, beq_eq_false_iff_ne, bne_eq_false_iff_eq, decide_eq_false_iff_not, Option.bind_some, dlen, dlenN, if_neg (show ¬ (i : Int) < l.length by omega), if_neg (show ¬ (false = true) by decide), w64]
      simpa using hR
  | succ d ih =>
    intro i b hi hR
    have hlen := hl.1
    rw [fitAll, drop_cons ((0, 0, 0) : Clu) (show i < l.length by omega), List.all_cons] at hR
    refine ev_s ?_
    cases b with
    | true =>
      simp (disch := omega) only [spec_pzAll.b2, spec_pzAll.l2, dlen, decide_eq_true_eq, if_pos (show (i : Int) < l.length by omega), if_pos (show 0 ≤ (i : Int) by omega), if_true, rd_nat, spec_pzFits_eq h (aAll_at hl (show i < l.length by omega)), Option.bind_some, w64, cs1]
      refine ih (i + 1) _ (by omega) ?_
      rw [Bool.true_and] at hR
      exact hR
    | false =>
      simp (disch := omega) only [spec_pzAll.b2, spec_pzAll.l2, dlen, decide_eq_true_eq, if_pos (show (i : Int) < l.length by omega), if_pos (show 0 ≤ (i : Int) by omega), if_neg (show ¬ (false = true) by decide), w64, cs1]
      refine ih (i + 1) _ (by omega) ?_
      simpa using hR
theorem spec_pzAll_l1 {l : List Clu} (hl : aAll l) {up : Int} (h : 1 ≤ up ∧ up ≤ 12) {R : List Sna} (d : Nat) : ∀ (j : Int) (acc : List Sna), 0 ≤ j → j + d = 13 → acc.length + d ≤ 1000 →
    Ev (fun k => spec_pzAll.l0 k l (up + 1) (acc ++ solD l up d j)) R → Ev (fun k => spec_pzAll.l1 k l up j acc) R := by
  induction d with
  | zero =>
    intro j acc h0 hj ha hR
    refine ev_s ?_
    simp (disch := omega) only [spec_pzAll.b1, spec_pzAll.l1, decide_eq_true_eq, Bool.not_eq_true', Bool.not_eq_false', beq_iff_eq, bne_iff_ne, ne_eq, beq_eq_false_iff_ne, bne_eq_false_iff_eq, decide_eq_false_iff_not, Option.bind_some, dlen, dlenN, if_neg (show ¬ j ≤ 12 by omega), w64]
    simpa [solD] using hR
  | succ d ih =>
    intro j acc h0 hj ha hR
    refine ev_s ?_
    simp only [spec_pzAll.b1, spec_pzAll.l1, decide_eq_true_eq, Bool.not_eq_true', Bool.not_eq_false', beq_iff_eq, bne_iff_ne, ne_eq, beq_eq_false_iff_ne, bne_eq_false_iff_eq, decide_eq_false_iff_not, Option.bind_some, dlen, dlenN, if_pos (show j ≤ 12 by omega)]
    refine spec_pzAll_l2 hl (show hidOk up j by unfold hidOk; omega) (by omega) l.length 0 true (by omega) ?_
    rw [solD, ← List.append_assoc] at hR
    refine ih (j + 1) _ (by omega) (by omega) ?_ ?_
    · rw [List.length_append]; split <;> simp <;> omega
    · simpa using hR
theorem spec_pzAll_l0 {l : List Clu} (hl : aAll l) (d : Nat) : ∀ (i : Int) (acc : List Sna), 1 ≤ i → i + d = 13 → acc.length + 13 * d ≤ 1000 →
    Ev (fun k => spec_pzAll.l0 k l i acc) (acc ++ solU l d i) := by
  induction d with
  | zero =>
    intro i acc h0 hi ha
    refine ev_s ?_
    simp only [spec_pzAll.b0, spec_pzAll.l0, decide_eq_true_eq, Bool.not_eq_true', Bool.not_eq_false', beq_iff_eq, bne_iff_ne, ne_eq, beq_eq_false_iff_ne, bne_eq_false_iff_eq, decide_eq_false_iff_not, Option.bind_some, dlen, dlenN, if_neg (show ¬ i ≤ 12 by omega)]
    exact ev_now (by simp [solU])
  | succ d ih =>
    intro i acc h0 hi ha
    have hb := solD_len l i 13 0
    refine ev_s ?_
    simp only [spec_pzAll.b0, spec_pzAll.l0, decide_eq_true_eq, Bool.not_eq_true', Bool.not_eq_false', beq_iff_eq, bne_iff_ne, ne_eq, beq_eq_false_iff_ne, bne_eq_false_iff_eq, decide_eq_false_iff_not, Option.bind_some, dlen, dlenN, if_pos (show i ≤ 12 by omega)]
    refine spec_pzAll_l1 hl (by omega) 13 0 acc (by omega) (by omega) (by omega) ?_
    rw [solU, ← List.append_assoc]
    exact ih (i + 1) _ (by omega) (by omega) (by rw [List.length_append]; omega)
theorem spec_pzAll_eq {l : List Clu} (hl : aAll l) : Ev (fun k => spec_pzAll.f k l) (sols l) :=
  spec_pzAll_l0 hl 12 1 [] (by omega) (by omega) (by simp)
/-! ### spec_Solutions -/
theorem spec_Solutions_eq (l : List Clu) : Ev (fun k => spec_Solutions.f k l) (solsSays l) := by
  unfold spec_Solutions.f spec_Solutions.b solsSays
  refine Ev.bind (spec_pzGood_eq l) ?_
  by_cases h : cluOk l = true
  · simp only [h, Bool.not_true, Bool.false_eq_true, if_false, if_true]
    exact Ev.bind (spec_pzAll_eq (aAll_of h)) (Ev.now _)
  · rw [Bool.not_eq_true] at h
    simp only [h, Bool.not_false, if_true, Bool.false_eq_true, if_false]
    exact Ev.now _
/-! ### base_puz -/
def countSays (l : List Clu) : Int × Bool := if cluOk l = true then (((sols l).length : Int), true) else (0, false)
/-! ### impl_CountSolutions -/
theorem impl_CountSolutions_eq (l : List Clu) : Ev (fun k => impl_CountSolutions.f k l) (countSays l) := by
  unfold impl_CountSolutions.f impl_CountSolutions.b countSays
  refine Ev.bind (impl_IsPuzzle_eq l) ?_
  by_cases h : cluOk l = true
  · simp only [h, Bool.not_true, Bool.false_eq_true, if_false, if_true]
    exact Ev.bind (impl_solutions_eq (aAll_of h)) (Ev.now _)
  · rw [Bool.not_eq_true] at h
    simp only [h, Bool.not_false, if_true, Bool.false_eq_true, if_false]
    exact Ev.now _
/-! ### spec_CountSolutions -/
theorem spec_CountSolutions_eq (l : List Clu) : Ev (fun k => spec_CountSolutions.f k l) (countSays l) := by
  unfold spec_CountSolutions.f spec_CountSolutions.b countSays
  refine Ev.bind (spec_pzGood_eq l) ?_
  by_cases h : cluOk l = true
  · simp only [h, Bool.not_true, Bool.false_eq_true, if_false, if_true]
    exact Ev.bind (spec_pzAll_eq (aAll_of h)) (Ev.now _)
  · rw [Bool.not_eq_true] at h
    simp only [h, Bool.not_false, if_true, Bool.false_eq_true, if_false]
    exact Ev.now _
/-! ### base_count -/
def firstSays2 (l : List Clu) : Sna × Bool := if cluOk l = true then (if ((sols l).length : Int) = 0 then ((0, 0), false) else (rd ((0, 0) : Sna) (sols l) 0, true)) else ((0, 0), false)
/-! ### impl_FirstSolution -/
theorem impl_FirstSolution_eq (l : List Clu) : Ev (fun k => impl_FirstSolution.f k l) (firstSays2 l) := by
  unfold impl_FirstSolution.f impl_FirstSolution.b firstSays2
  refine Ev.bind (impl_IsPuzzle_eq l) ?_
  by_cases h : cluOk l = true
  · simp only [h, Bool.not_true, Bool.false_eq_true, if_false, if_true]
    refine Ev.bind (impl_solutions_eq (aAll_of h)) ?_
    by_cases h0 : ((sols l).length : Int) = 0
    · simp only [decide_eq_true_eq, Bool.not_eq_true', Bool.not_eq_false', beq_iff_eq, bne_iff_ne, ne_eq, beq_eq_false_iff_ne, bne_eq_false_iff_eq, decide_eq_false_iff_not, Option.bind_some, dlen, dlenN, if_pos h0]
      exact Ev.now _
    · simp only [decide_eq_true_eq, Bool.not_eq_true', Bool.not_eq_false', beq_iff_eq, bne_iff_ne, ne_eq, beq_eq_false_iff_ne, bne_eq_false_iff_eq, decide_eq_false_iff_not, Option.bind_some, dlen, dlenN, if_neg h0, if_pos (show 0 < ((sols l).length : Int) by omega)]
      exact Ev.now _
  · rw [Bool.not_eq_true] at h
    simp only [h, Bool.not_false, if_true, Bool.false_eq_true, if_false]
    exact Ev.now _
/-! ### spec_FirstSolution -/
theorem spec_FirstSolution_eq (l : List Clu) : Ev (fun k => spec_FirstSolution.f k l) (firstSays2 l) := by
  unfold spec_FirstSolution.f spec_FirstSolution.b firstSays2
  refine Ev.bind (spec_pzGood_eq l) ?_
  by_cases h : cluOk l = true
  · simp only [h, Bool.not_true, Bool.false_eq_true, if_false, if_true]
    refine Ev.bind (spec_pzAll_eq (aAll_of h)) ?_
    by_cases h0 : ((sols l).length : Int) = 0
    · simp only [decide_eq_true_eq, Bool.not_eq_true', Bool.not_eq_false', beq_iff_eq, bne_iff_ne, ne_eq, beq_eq_false_iff_ne, bne_eq_false_iff_eq, decide_eq_false_iff_not, Option.bind_some, dlen, dlenN, if_pos h0]
      exact Ev.now _
    · simp only [decide_eq_true_eq, Bool.not_eq_true', Bool.not_eq_false', beq_iff_eq, bne_iff_ne, ne_eq, beq_eq_false_iff_ne, bne_eq_false_iff_eq, decide_eq_false_iff_not, Option.bind_some, dlen, dlenN, if_neg h0, if_pos (show 0 < ((sols l).length : Int) by omega)]
      exact Ev.now _
  · rw [Bool.not_eq_true] at h
    simp only [h, Bool.not_false, if_true, Bool.false_eq_true, if_false]
    exact Ev.now _
/-! ### impl_SureSnail -/
theorem impl_SureSnail_loop {l : List Sna} (hl : l.length ≤ 156) (d : Nat) : ∀ (i : Nat) (a b : Int), i + d = l.length →
    Ev (fun k => impl_SureSnail.l0 k a b l (l.length : Int) (i : Int)) (sureGo (l.drop i) a b) := by
  induction d with
  | zero =>
    intro i a b hi
    rw [List.drop_eq_nil_of_le (by omega)]
    refine ev_s ?_
    simp only [impl_SureSnail.b0, impl_SureSnail.l0, decide_eq_true_eq, Bool.not_eq_true', Bool.not_eq_false', beq_iff_eq, bne_iff_ne, ne_eq, beq_eq_false_iff_ne, bne_eq_false_iff_eq, decide_eq_false_iff_not, Option.bind_some, dlen, dlenN, if_neg (show ¬ (i : Int) < l.length by omega)]
    exact Ev.now _
  | succ d ih =>
    intro i a b hi
    rw [drop_cons ((0, 0) : Sna) (show i < l.length by omega), sureGo]
    refine ev_s ?_
    simp (disch := omega) only [impl_SureSnail.b0, impl_SureSnail.l0, decide_eq_true_eq, Bool.not_eq_true', Bool.not_eq_false', beq_iff_eq, bne_iff_ne, ne_eq, beq_eq_false_iff_ne, bne_eq_false_iff_eq, decide_eq_false_iff_not, Option.bind_some, dlen, dlenN, if_pos (show (i : Int) < l.length by omega), if_pos (show 0 ≤ (i : Int) by omega), rd_nat, w64, cs1]
    by_cases h1 : (l.getD i ((0, 0) : Sna)).1 = a <;> by_cases h2 : (l.getD i ((0, 0) : Sna)).2 = b
    · simp only [h1, h2, not_true_eq_false, if_false, if_true]; exact ih (i + 1) _ _ (by omega)
    · simp only [h1, h2, not_true_eq_false, not_false_eq_true, if_false, if_true]; exact ih (i + 1) _ _ (by omega)
    · simp only [h1, h2, not_true_eq_false, not_false_eq_true, if_false, if_true]; exact ih (i + 1) _ _ (by omega)
    · simp only [h1, h2, not_true_eq_false, not_false_eq_true, if_false, if_true]; exact ih (i + 1) _ _ (by omega)
theorem impl_SureSnail_eq (l : List Clu) : Ev (fun k => impl_SureSnail.f k l) (sureSays l) := by
  unfold impl_SureSnail.f impl_SureSnail.b sureSays
  refine Ev.bind (impl_IsPuzzle_eq l) ?_
  by_cases h : cluOk l = true
  · simp only [h, Bool.not_true, Bool.false_eq_true, if_false, if_true]
    refine Ev.bind (impl_solutions_eq (aAll_of h)) ?_
    by_cases h0 : ((sols l).length : Int) = 0
    · simp only [decide_eq_true_eq, Bool.not_eq_true', Bool.not_eq_false', beq_iff_eq, bne_iff_ne, ne_eq, beq_eq_false_iff_ne, bne_eq_false_iff_eq, decide_eq_false_iff_not, Option.bind_some, dlen, dlenN, if_pos h0]
      exact Ev.now _
    · simp only [decide_eq_true_eq, Bool.not_eq_true', Bool.not_eq_false', beq_iff_eq, bne_iff_ne, ne_eq, beq_eq_false_iff_ne, bne_eq_false_iff_eq, decide_eq_false_iff_not, Option.bind_some, dlen, dlenN, if_neg h0, if_pos (show 0 < ((sols l).length : Int) by omega)]
      exact impl_SureSnail_loop (sols_len l) (sols l).length 0 _ _ (by omega)
  · rw [Bool.not_eq_true] at h
    simp only [h, Bool.not_false, if_true, Bool.false_eq_true, if_false]
    exact Ev.now _
/-! ### spec_SureSnail -/
theorem spec_SureSnail_loop {l : List Sna} (hl : l.length ≤ 156) (d : Nat) : ∀ (i : Nat) (a b : Int), i + d = l.length →
    Ev (fun k => spec_SureSnail.l0 k a b l (l.length : Int) (i : Int)) (sureGo (l.drop i) a b) := by
  induction d with
  | zero =>
    intro i a b hi
    rw [List.drop_eq_nil_of_le (by omega)]
    refine ev_s ?_
    simp only [spec_SureSnail.b0, spec_SureSnail.l0, decide_eq_true_eq, Bool.not_eq_true', Bool.not_eq_false', beq_iff_eq, bne_iff_ne, ne_eq, beq_eq_false_iff_ne, bne_eq_false_iff_eq, decide_eq_false_iff_not, Option.bind_some, dlen, dlenN, if_neg (show ¬ (i : Int) < l.length by omega)]
    exact Ev.now _
  | succ d ih =>
    intro i a b hi
    rw [drop_cons ((0, 0) : Sna) (show i < l.length by omega), sureGo]
    refine ev_s ?_
    simp (disch := omega) only [spec_SureSnail.b0, spec_SureSnail.l0, decide_eq_true_eq, Bool.not_eq_true', Bool.not_eq_false', beq_iff_eq, bne_iff_ne, ne_eq, beq_eq_false_iff_ne, bne_eq_false_iff_eq, decide_eq_false_iff_not, Option.bind_some, dlen, dlenN, if_pos (show (i : Int) < l.length by omega), if_pos (show 0 ≤ (i : Int) by omega), rd_nat, w64, cs1]
    by_cases h1 : (l.getD i ((0, 0) : Sna)).1 = a <;> by_cases h2 : (l.getD i ((0, 0) : Sna)).2 = b
    · simp only [h1, h2, not_true_eq_false, if_false, if_true]; exact ih (i + 1) _ _ (by omega)
    · simp only [h1, h2, not_true_eq_false, not_false_eq_true, if_false, if_true]; exact ih (i + 1) _ _ (by omega)
    · simp only [h1, h2, not_true_eq_false, not_false_eq_true, if_false, if_true]; exact ih (i + 1) _ _ (by omega)
    · simp only [h1, h2, not_true_eq_false, not_false_eq_true, if_false, if_true]; exact ih (i + 1) _ _ (by omega)
theorem spec_SureSnail_eq (l : List Clu) : Ev (fun k => spec_SureSnail.f k l) (sureSays l) := by
  unfold spec_SureSnail.f spec_SureSnail.b sureSays
  refine Ev.bind (spec_pzGood_eq l) ?_
  by_cases h : cluOk l = true
  · simp only [h, Bool.not_true, Bool.false_eq_true, if_false, if_true]
    refine Ev.bind (spec_pzAll_eq (aAll_of h)) ?_
    by_cases h0 : ((sols l).length : Int) = 0
    · simp only [decide_eq_true_eq, Bool.not_eq_true', Bool.not_eq_false', beq_iff_eq, bne_iff_ne, ne_eq, beq_eq_false_iff_ne, bne_eq_false_iff_eq, decide_eq_false_iff_not, Option.bind_some, dlen, dlenN, if_pos h0]
      exact Ev.now _
    · simp only [decide_eq_true_eq, Bool.not_eq_true', Bool.not_eq_false', beq_iff_eq, bne_iff_ne, ne_eq, beq_eq_false_iff_ne, bne_eq_false_iff_eq, decide_eq_false_iff_not, Option.bind_some, dlen, dlenN, if_neg h0, if_pos (show 0 < ((sols l).length : Int) by omega)]
      exact spec_SureSnail_loop (sols_len l) (sols l).length 0 _ _ (by omega)
  · rw [Bool.not_eq_true] at h
    simp only [h, Bool.not_false, if_true, Bool.false_eq_true, if_false]
    exact Ev.now _
/-! ### impl_IsSolved -/
theorem impl_IsSolved_eq (l : List Clu) : Ev (fun k => impl_IsSolved.f k l) (solvedSays l) := by
  unfold impl_IsSolved.f impl_IsSolved.b solvedSays
  refine Ev.bind (impl_IsPuzzle_eq l) ?_
  by_cases h : cluOk l = true
  · simp only [h, Bool.not_true, Bool.false_eq_true, if_false, if_true]
    exact Ev.bind (impl_solutions_eq (aAll_of h)) (Ev.now _)
  · rw [Bool.not_eq_true] at h
    simp only [h, Bool.not_false, if_true, Bool.false_eq_true, if_false]
    exact Ev.now _
/-! ### spec_pzSolved -/
theorem spec_pzSolved_eq {l : List Clu} (h : aAll l) : Ev (fun k => spec_pzSolved.f k l) (((sols l).length : Int) == 1) := by
  unfold spec_pzSolved.f spec_pzSolved.b
  exact Ev.bind (spec_pzAll_eq h) (Ev.now _)
/-! ### spec_IsSolved -/
theorem spec_IsSolved_eq (l : List Clu) : Ev (fun k => spec_IsSolved.f k l) (solvedSays l) := by
  unfold spec_IsSolved.f spec_IsSolved.b solvedSays
  refine Ev.bind (spec_pzGood_eq l) ?_
  by_cases h : cluOk l = true
  · simp only [h, Bool.not_true, Bool.false_eq_true, if_false, if_true]
    exact Ev.bind (spec_pzSolved_eq (aAll_of h)) (Ev.now _)
  · rw [Bool.not_eq_true] at h
    simp only [h, Bool.not_false, if_true, Bool.false_eq_true, if_false]
    exact Ev.now _
/-! ### slices_Clone_impl_Clue_impl_Clue -/
theorem Clone_Clue_eq {l : List Clu} (h : l.length ≤ 5864062014805) : slices_Clone_impl_Clue_impl_Clue.f l = some l := if_pos h
/-! ### base_sub -/
theorem aAll_sub {l l' : List Clu} (h : aAll l) (hs : l'.Sublist l) : aAll l' :=
  ⟨Nat.le_trans hs.length_le h.1, fun v hv => h.2 v (hs.subset hv)⟩
/-! ### base_drop -/
/-- A list without the i-th. -/
def dropAt {α : Type} (l : List α) (i : Nat) : List α := l.take i ++ l.drop (i + 1)
theorem dropAt_len {α : Type} {l : List α} {i : Nat} (h : i < l.length) : (dropAt l i).length = l.length - 1 := by
  unfold dropAt; simp; omega
theorem dropAt_sub {α : Type} (l : List α) (i : Nat) : (dropAt l i).Sublist l := by
  unfold dropAt
  have h : l.take i ++ l.drop i = l := List.take_append_drop i l
  conv => rhs; rw [← h]
  refine List.Sublist.append_left ?_ _
  rw [← List.drop_drop]
  exact List.drop_sublist _ _
def dropSays (l : List Clu) (i : Int) : List Clu × Bool := if cluOk l = true ∧ 0 ≤ i ∧ i < (l.length : Int) then (dropAt l i.toNat, true) else ([], false)
theorem dropSays_len (l : List Clu) (i : Int) : (dropSays l i).1.length ≤ 6 := by
  unfold dropSays
  split
  · rename_i h
    have := (aAll_of h.1).1
    exact Nat.le_trans (dropAt_sub l i.toNat).length_le this
  · simp
/-! ### impl_withoutClue -/
theorem impl_withoutClue_eq {l : List Clu} (hl : l.length ≤ 1000) {i : Nat} (hi : i < l.length) : impl_withoutClue.f l (i : Int) = some (dropAt l i) := by
  simp (disch := omega) only [impl_withoutClue.b, impl_withoutClue.f, Clone_Clue_eq (show l.length ≤ 5864062014805 by omega), Option.bind_some, dlen, w64, if_pos (show (0 : Int) ≤ (i : Int) by omega), if_pos (show (i : Int) < (l.length : Int) by omega), if_true, if_pos (show (l.length : Int) ≤ 5000000000000 by omega), castsub, show ((i : Int) + 1).toNat = i + 1 by omega, dropAt]
/-! ### base_need -/
def needGo (l : List Clu) : Nat → Nat → List Int
  | 0, _ => []
  | d + 1, i => if ((sols (dropAt l i)).length : Int) = ((sols l).length : Int) then (i : Int) :: needGo l d (i + 1) else needGo l d (i + 1)
theorem needGo_len (l : List Clu) (d : Nat) : ∀ i, (needGo l d i).length ≤ d := by
  induction d with
  | zero => intro i; simp [needGo]
  | succ d ih =>
    intro i
    have := ih (i + 1)
    rw [needGo]
    split <;> simp <;> omega
def needSays (l : List Clu) : List Int × Bool := if cluOk l = true then (needGo l l.length 0, true) else ([], false)
theorem needSays_len (l : List Clu) : (needSays l).1.length ≤ 6 := by
  unfold needSays
  split
  · rename_i h
    exact Nat.le_trans (needGo_len _ _ _) (aAll_of h).1
  · simp
/-! ### impl_NeedlessClues -/
theorem impl_NeedlessClues_loop {l : List Clu} (hl : aAll l) (d : Nat) : ∀ (i : Nat) (acc : List Int), i + d = l.length → acc.length ≤ i → Ev (fun k => impl_NeedlessClues.l0 k ((sols l).length : Int) (l.length : Int) (i : Int) l acc) (acc ++ needGo l d i, true) := by
  have hlen := hl.1
  induction d with
  | zero =>
    intro i acc hi ha
    refine ev_s ?_
    simp only [impl_NeedlessClues.b0, impl_NeedlessClues.l0, decide_eq_true_eq, Bool.not_eq_true', Bool.not_eq_false', beq_iff_eq, bne_iff_ne, ne_eq, beq_eq_false_iff_ne, bne_eq_false_iff_eq, decide_eq_false_iff_not, Option.bind_some, dlen, dlenN, if_neg (show ¬ (i : Int) < (l.length : Int) by omega)]
    exact ev_now (by simp [needGo])
  | succ d ih =>
    intro i acc hi ha
    refine ev_s ?_
    rw [needGo]
    simp (disch := omega) only [impl_NeedlessClues.b0, impl_NeedlessClues.l0, decide_eq_true_eq, Bool.not_eq_true', Bool.not_eq_false', beq_iff_eq, bne_iff_ne, ne_eq, beq_eq_false_iff_ne, bne_eq_false_iff_eq, decide_eq_false_iff_not, Option.bind_some, dlen, dlenN, if_pos (show (i : Int) < (l.length : Int) by omega), impl_withoutClue_eq (show l.length ≤ 1000 by omega) (show i < l.length by omega), w64, cs1]
    refine Ev.bind (impl_solutions_eq (aAll_sub hl (dropAt_sub l i))) ?_
    by_cases h1 : ((sols (dropAt l i)).length : Int) = ((sols l).length : Int)
    · rw [if_pos h1]
      simp only [if_pos h1, if_pos (show acc.length + 1 ≤ 17592186044416 by omega)]
      rw [show acc ++ (i : Int) :: needGo l d (i + 1) = acc ++ [(i : Int)] ++ needGo l d (i + 1) by simp]
      exact ih (i + 1) _ (by omega) (by simp; omega)
    · rw [if_neg h1]
      simp only [if_neg h1]
      exact ih (i + 1) _ (by omega) (by omega)
theorem impl_NeedlessClues_eq (l : List Clu) : Ev (fun k => impl_NeedlessClues.f k l) (needSays l) := by
  unfold impl_NeedlessClues.f impl_NeedlessClues.b needSays
  refine Ev.bind (impl_IsPuzzle_eq l) ?_
  by_cases h : cluOk l = true
  · have hl := aAll_of h
    simp only [h, Bool.not_true, Bool.false_eq_true, if_false, if_true]
    refine Ev.bind (impl_solutions_eq hl) ?_
    exact impl_NeedlessClues_loop hl l.length 0 [] (by omega) (by simp)
  · rw [Bool.not_eq_true] at h
    simp only [h, Bool.not_false, if_true, Bool.false_eq_true, if_false]
    exact Ev.now _
/-! ### spec_pzWithout -/
theorem spec_pzWithout_eq {l : List Clu} (hl : l.length ≤ 1000) {i : Nat} (hi : i < l.length) : spec_pzWithout.f l (i : Int) = some (dropAt l i) := by
  simp (disch := omega) only [spec_pzWithout.f, dlen, dlenN, w64, if_pos (show (0 : Int) ≤ (i : Int) by omega), if_pos (show (i : Int) ≤ (l.length : Int) by omega), if_pos (show (0 : Int) ≤ (i : Int) + 1 by omega), if_pos (show (i : Int) + 1 ≤ (l.length : Int) by omega), castsub, show ((i : Int) + 1).toNat = i + 1 by omega, List.nil_append]
  rw [if_pos (by simp; omega), if_pos (by simp; omega)]
  rfl
/-! ### spec_NeedlessClues -/
theorem spec_NeedlessClues_loop {l : List Clu} (hl : aAll l) (d : Nat) : ∀ (i : Nat) (acc : List Int), i + d = l.length → acc.length ≤ i → Ev (fun k => spec_NeedlessClues.l0 k ((sols l).length : Int) (l.length : Int) (i : Int) l acc) (acc ++ needGo l d i, true) := by
  have hlen := hl.1
  induction d with
  | zero =>
    intro i acc hi ha
    refine ev_s ?_
    simp only [spec_NeedlessClues.b0, spec_NeedlessClues.l0, decide_eq_true_eq, Bool.not_eq_true', Bool.not_eq_false', beq_iff_eq, bne_iff_ne, ne_eq, beq_eq_false_iff_ne, bne_eq_false_iff_eq, decide_eq_false_iff_not, Option.bind_some, dlen, dlenN, if_neg (show ¬ (i : Int) < (l.length : Int) by omega)]
    exact ev_now (by simp [needGo])
  | succ d ih =>
    intro i acc hi ha
    refine ev_s ?_
    rw [needGo]
    simp (disch := omega) only [spec_NeedlessClues.b0, spec_NeedlessClues.l0, decide_eq_true_eq, Bool.not_eq_true', Bool.not_eq_false', beq_iff_eq, bne_iff_ne, ne_eq, beq_eq_false_iff_ne, bne_eq_false_iff_eq, decide_eq_false_iff_not, Option.bind_some, dlen, dlenN, if_pos (show (i : Int) < (l.length : Int) by omega), spec_pzWithout_eq (show l.length ≤ 1000 by omega) (show i < l.length by omega), w64, cs1]
    refine Ev.bind (spec_pzAll_eq (aAll_sub hl (dropAt_sub l i))) ?_
    by_cases h1 : ((sols (dropAt l i)).length : Int) = ((sols l).length : Int)
    · rw [if_pos h1]
      simp only [if_pos h1, if_pos (show acc.length + 1 ≤ 17592186044416 by omega)]
      rw [show acc ++ (i : Int) :: needGo l d (i + 1) = acc ++ [(i : Int)] ++ needGo l d (i + 1) by simp]
      exact ih (i + 1) _ (by omega) (by simp; omega)
    · rw [if_neg h1]
      simp only [if_neg h1]
      exact ih (i + 1) _ (by omega) (by omega)
theorem spec_NeedlessClues_eq (l : List Clu) : Ev (fun k => spec_NeedlessClues.f k l) (needSays l) := by
  unfold spec_NeedlessClues.f spec_NeedlessClues.b needSays
  refine Ev.bind (spec_pzGood_eq l) ?_
  by_cases h : cluOk l = true
  · have hl := aAll_of h
    simp only [h, Bool.not_true, Bool.false_eq_true, if_false, if_true]
    refine Ev.bind (spec_pzAll_eq hl) ?_
    exact spec_NeedlessClues_loop hl l.length 0 [] (by omega) (by simp)
  · rw [Bool.not_eq_true] at h
    simp only [h, Bool.not_false, if_true, Bool.false_eq_true, if_false]
    exact Ev.now _
/-! ### base_left -/
def leftGo (l : List Clu) : Nat → Nat → List Int
  | 0, _ => []
  | d + 1, i => ((sols (l.take i)).length : Int) :: leftGo l d (i + 1)
theorem leftGo_len (l : List Clu) (d : Nat) : ∀ i, (leftGo l d i).length = d := by
  induction d with
  | zero => intro i; rfl
  | succ d ih => intro i; simp [leftGo, ih]
def leftSays (l : List Clu) : List Int × Bool := if cluOk l = true then (leftGo l (l.length + 1) 0, true) else ([], false)
/-! ### impl_LeftByClues -/
theorem impl_LeftByClues_loop {l : List Clu} (hl : aAll l) (d : Nat) : ∀ (i : Nat) (acc : List Int), i + d = l.length + 1 → acc.length = i →
    Ev (fun k => impl_LeftByClues.l0 k ((l.length : Int) + 1) (i : Int) l acc) (acc ++ leftGo l d i, true) := by
  have hlen := hl.1
  induction d with
  | zero =>
    intro i acc hi ha
    refine ev_s ?_
    simp only [impl_LeftByClues.b0, impl_LeftByClues.l0, decide_eq_true_eq, Bool.not_eq_true', Bool.not_eq_false', beq_iff_eq, bne_iff_ne, ne_eq, beq_eq_false_iff_ne, bne_eq_false_iff_eq, decide_eq_false_iff_not, Option.bind_some, dlen, dlenN, if_neg (show ¬ (i : Int) < (l.length : Int) + 1 by omega)]
    exact ev_now (by simp [leftGo])
  | succ d ih =>
    intro i acc hi ha
    refine ev_s ?_
    simp (disch := omega) only [impl_LeftByClues.b0, impl_LeftByClues.l0, decide_eq_true_eq, Bool.not_eq_true', Bool.not_eq_false', beq_iff_eq, bne_iff_ne, ne_eq, beq_eq_false_iff_ne, bne_eq_false_iff_eq, decide_eq_false_iff_not, Option.bind_some, dlen, dlenN, if_pos (show (i : Int) < (l.length : Int) + 1 by omega), if_pos (show 0 ≤ (i : Int) by omega), if_pos (show (i : Int) ≤ (l.length : Int) by omega), castsub, w64]
    refine Ev.bind (impl_solutions_eq (aAll_sub hl (List.take_sublist _ _))) ?_
    simp only [if_pos (show acc.length + 1 ≤ 17592186044416 by omega), cs1 i]
    rw [leftGo, show acc ++ ((sols (l.take i)).length : Int) :: leftGo l d (i + 1) = acc ++ [((sols (l.take i)).length : Int)] ++ leftGo l d (i + 1) by simp]
    exact ih (i + 1) _ (by omega) (by simp; omega)
theorem impl_LeftByClues_eq (l : List Clu) : Ev (fun k => impl_LeftByClues.f k l) (leftSays l) := by
  unfold impl_LeftByClues.f impl_LeftByClues.b leftSays
  refine Ev.bind (impl_IsPuzzle_eq l) ?_
  by_cases h : cluOk l = true
  · have := (aAll_of h).1
    simp (disch := omega) only [h, Bool.not_true, Bool.false_eq_true, if_false, if_true, dlen, w64]
    exact impl_LeftByClues_loop (aAll_of h) (l.length + 1) 0 [] (by omega) rfl
  · rw [Bool.not_eq_true] at h
    simp only [h, Bool.not_false, if_true, Bool.false_eq_true, if_false]
    exact Ev.now _
/-! ### spec_LeftByClues -/
theorem spec_LeftByClues_loop {l : List Clu} (hl : aAll l) (d : Nat) : ∀ (i : Nat) (acc : List Int), i + d = l.length + 1 → acc.length = i →
    Ev (fun k => spec_LeftByClues.l0 k (i : Int) l acc) (acc ++ leftGo l d i, true) := by
  have hlen := hl.1
  induction d with
  | zero =>
    intro i acc hi ha
    refine ev_s ?_
    simp only [spec_LeftByClues.b0, spec_LeftByClues.l0, decide_eq_true_eq, Bool.not_eq_true', Bool.not_eq_false', beq_iff_eq, bne_iff_ne, ne_eq, beq_eq_false_iff_ne, bne_eq_false_iff_eq, decide_eq_false_iff_not, Option.bind_some, dlen, dlenN, if_neg (show ¬ (i : Int) ≤ l.length by omega)]
    exact ev_now (by simp [leftGo])
  | succ d ih =>
    intro i acc hi ha
    refine ev_s ?_
    simp (disch := omega) only [spec_LeftByClues.b0, spec_LeftByClues.l0, decide_eq_true_eq, Bool.not_eq_true', Bool.not_eq_false', beq_iff_eq, bne_iff_ne, ne_eq, beq_eq_false_iff_ne, bne_eq_false_iff_eq, decide_eq_false_iff_not, Option.bind_some, dlen, dlenN, if_pos (show (i : Int) ≤ l.length by omega), if_pos (show 0 ≤ (i : Int) by omega), castsub, w64, cs1]
    refine Ev.bind (spec_pzAll_eq (aAll_sub hl (List.take_sublist _ _))) ?_
    simp only [if_pos (show acc.length + 1 ≤ 17592186044416 by omega)]
    rw [leftGo, show acc ++ ((sols (l.take i)).length : Int) :: leftGo l d (i + 1) = acc ++ [((sols (l.take i)).length : Int)] ++ leftGo l d (i + 1) by simp]
    exact ih (i + 1) _ (by omega) (by simp; omega)
theorem spec_LeftByClues_eq (l : List Clu) : Ev (fun k => spec_LeftByClues.f k l) (leftSays l) := by
  unfold spec_LeftByClues.f spec_LeftByClues.b leftSays
  refine Ev.bind (spec_pzGood_eq l) ?_
  by_cases h : cluOk l = true
  · simp only [h, Bool.not_true, Bool.false_eq_true, if_false, if_true]
    exact spec_LeftByClues_loop (aAll_of h) (l.length + 1) 0 [] (by omega) rfl
  · rw [Bool.not_eq_true] at h
    simp only [h, Bool.not_false, if_true, Bool.false_eq_true, if_false]
    exact Ev.now _
/-! ### base_best -/
def cntAt (l : List Clu) (i : Nat) : Int := (sols ((l.take (i + 1)).drop i)).length
def bestGo (l : List Clu) : Nat → Nat → Int → Int → Int × Bool
  | 0, _, b, _ => (b, true)
  | d + 1, i, b, m => if cntAt l i < m then bestGo l d (i + 1) i (cntAt l i) else bestGo l d (i + 1) b m
def bestSays (l : List Clu) : Int × Bool := if cluOk l = true then (if l.length = 0 then (0, false) else bestGo l (l.length - 1) 1 0 (cntAt l 0)) else (0, false)
/-! ### impl_BestClue -/
theorem impl_BestClue_loop {l : List Clu} (hl : aAll l) (d : Nat) : ∀ (i : Nat) (b m : Int), i + d = l.length → 1 ≤ i → 0 ≤ b →
    Ev (fun k => impl_BestClue.l0 k b m (l.length : Int) (i : Int) l) (bestGo l d i b m) := by
  have hlen := hl.1
  induction d with
  | zero =>
    intro i b m hi h1 hb
    refine ev_s ?_
    simp only [impl_BestClue.b0, impl_BestClue.l0, decide_eq_true_eq, Bool.not_eq_true', Bool.not_eq_false', beq_iff_eq, bne_iff_ne, ne_eq, beq_eq_false_iff_ne, bne_eq_false_iff_eq, decide_eq_false_iff_not, Option.bind_some, dlen, dlenN, if_neg (show ¬ (i : Int) < l.length by omega)]
    exact Ev.now _
  | succ d ih =>
    intro i b m hi h1 hb
    refine ev_s ?_
    simp (disch := omega) only [impl_BestClue.b0, impl_BestClue.l0, decide_eq_true_eq, Bool.not_eq_true', Bool.not_eq_false', beq_iff_eq, bne_iff_ne, ne_eq, beq_eq_false_iff_ne, bne_eq_false_iff_eq, decide_eq_false_iff_not, Option.bind_some, dlen, dlenN, w64, if_pos (show (i : Int) < l.length by omega), if_pos (show 0 ≤ (i : Int) by omega), if_pos (show (i : Int) ≤ (i : Int) + 1 by omega), if_pos (show (i : Int) + 1 ≤ (l.length : Int) by omega), show ((i : Int) + 1).toNat = i + 1 by omega, castsub]
    refine Ev.bind (impl_solutions_eq (aAll_sub hl ((List.drop_sublist _ _).trans (List.take_sublist _ _)))) ?_
    simp only [if_neg (show ¬ b < 0 by omega), cs1 i]
    rw [bestGo]
    by_cases hc : cntAt l i < m
    · rw [if_pos hc]
      unfold cntAt at hc ⊢
      simp only [if_pos hc]
      exact ih (i + 1) _ _ (by omega) (by omega) (by omega)
    · rw [if_neg hc]
      unfold cntAt at hc
      simp only [if_neg hc]
      exact ih (i + 1) _ _ (by omega) (by omega) (by omega)
theorem impl_BestClue_eq (l : List Clu) : Ev (fun k => impl_BestClue.f k l) (bestSays l) := by
  unfold impl_BestClue.f impl_BestClue.b bestSays
  refine Ev.bind (impl_IsPuzzle_eq l) ?_
  by_cases h : cluOk l = true
  · have hl := aAll_of h
    have hlen := hl.1
    simp only [h, Bool.not_true, Bool.false_eq_true, if_false, if_true]
    by_cases h0 : l.length = 0
    · simp only [if_pos h0, if_pos (show ((l.length : Int) == 0) = true by rw [h0]; rfl)]
      exact Ev.now _
    · simp only [if_neg h0, if_neg (show ¬ ((l.length : Int) == 0) = true by simp [h0])]
      refine ev_s ?_
      simp (disch := omega) only [impl_BestClue.b0, impl_BestClue.l0, decide_eq_true_eq, Bool.not_eq_true', Bool.not_eq_false', beq_iff_eq, bne_iff_ne, ne_eq, beq_eq_false_iff_ne, bne_eq_false_iff_eq, decide_eq_false_iff_not, Option.bind_some, dlen, dlenN, w64, if_pos (show (0 : Int) < l.length by omega), if_pos (show (0 : Int) ≤ 0 by omega), if_pos (show (0 : Int) ≤ 0 + 1 by omega), if_pos (show (0 : Int) + 1 ≤ (l.length : Int) by omega), show ((0 : Int) + 1).toNat = 0 + 1 from rfl, show ((0 : Int)).toNat = 0 from rfl]
      refine Ev.bind (impl_solutions_eq (aAll_sub hl ((List.drop_sublist _ _).trans (List.take_sublist _ _)))) ?_
      simp only [if_pos (show (-1 : Int) < 0 by omega)]
      exact impl_BestClue_loop hl (l.length - 1) 1 0 _ (by omega) (by omega) (by omega)
  · rw [Bool.not_eq_true] at h
    simp only [h, Bool.not_false, if_true, Bool.false_eq_true, if_false]
    exact Ev.now _
/-! ### spec_BestClue -/
theorem spec_BestClue_loop {l : List Clu} (hl : aAll l) (d : Nat) : ∀ (i : Nat) (b m : Int), i + d = l.length → 1 ≤ i → 0 ≤ b →
    Ev (fun k => spec_BestClue.l0 k b m (l.length : Int) (i : Int) l) (bestGo l d i b m) := by
  have hlen := hl.1
  induction d with
  | zero =>
    intro i b m hi h1 hb
    refine ev_s ?_
    simp only [spec_BestClue.b0, spec_BestClue.l0, decide_eq_true_eq, Bool.not_eq_true', Bool.not_eq_false', beq_iff_eq, bne_iff_ne, ne_eq, beq_eq_false_iff_ne, bne_eq_false_iff_eq, decide_eq_false_iff_not, Option.bind_some, dlen, dlenN, if_neg (show ¬ (i : Int) < l.length by omega)]
    exact Ev.now _
  | succ d ih =>
    intro i b m hi h1 hb
    refine ev_s ?_
    simp (disch := omega) only [spec_BestClue.b0, spec_BestClue.l0, decide_eq_true_eq, Bool.not_eq_true', Bool.not_eq_false', beq_iff_eq, bne_iff_ne, ne_eq, beq_eq_false_iff_ne, bne_eq_false_iff_eq, decide_eq_false_iff_not, Option.bind_some, dlen, dlenN, w64, if_pos (show (i : Int) < l.length by omega), if_pos (show 0 ≤ (i : Int) by omega), if_pos (show (i : Int) ≤ (i : Int) + 1 by omega), if_pos (show (i : Int) + 1 ≤ (l.length : Int) by omega), show ((i : Int) + 1).toNat = i + 1 by omega, castsub]
    refine Ev.bind (spec_pzAll_eq (aAll_sub hl ((List.drop_sublist _ _).trans (List.take_sublist _ _)))) ?_
    simp only [if_neg (show ¬ (i : Int) = 0 by omega), cs1 i]
    rw [bestGo]
    by_cases hc : cntAt l i < m
    · rw [if_pos hc]
      unfold cntAt at hc ⊢
      simp only [if_pos hc]
      exact ih (i + 1) _ _ (by omega) (by omega) (by omega)
    · rw [if_neg hc]
      unfold cntAt at hc
      simp only [if_neg hc]
      exact ih (i + 1) _ _ (by omega) (by omega) (by omega)
theorem spec_BestClue_eq (l : List Clu) : Ev (fun k => spec_BestClue.f k l) (bestSays l) := by
  unfold spec_BestClue.f spec_BestClue.b bestSays
  refine Ev.bind (spec_pzGood_eq l) ?_
  by_cases h : cluOk l = true
  · have hl := aAll_of h
    have hlen := hl.1
    simp only [h, Bool.not_true, Bool.false_eq_true, if_false, if_true]
    by_cases h0 : l.length = 0
    · simp only [if_pos h0, if_pos (show ((l.length : Int) == 0) = true by rw [h0]; rfl)]
      exact Ev.now _
    · simp only [if_neg h0, if_neg (show ¬ ((l.length : Int) == 0) = true by simp [h0])]
      refine ev_s ?_
      simp (disch := omega) only [spec_BestClue.b0, spec_BestClue.l0, decide_eq_true_eq, Bool.not_eq_true', Bool.not_eq_false', beq_iff_eq, bne_iff_ne, ne_eq, beq_eq_false_iff_ne, bne_eq_false_iff_eq, decide_eq_false_iff_not, Option.bind_some, dlen, dlenN, w64, if_pos (show (0 : Int) < l.length by omega), if_pos (show (0 : Int) ≤ 0 by omega), if_pos (show (0 : Int) ≤ 0 + 1 by omega), if_pos (show (0 : Int) + 1 ≤ (l.length : Int) by omega), show ((0 : Int) + 1).toNat = 0 + 1 from rfl, show ((0 : Int)).toNat = 0 from rfl]
      refine Ev.bind (spec_pzAll_eq (aAll_sub hl ((List.drop_sublist _ _).trans (List.take_sublist _ _)))) ?_
      try simp only [if_true]
      exact spec_BestClue_loop hl (l.length - 1) 1 0 _ (by omega) (by omega) (by omega)
  · rw [Bool.not_eq_true] at h
    simp only [h, Bool.not_false, if_true, Bool.false_eq_true, if_false]
    exact Ev.now _
/-! ### base_text -/
/-- Bytes as a text. -/
def bL (l : List UInt8) : ByteArray := ⟨l.toArray⟩
theorem bL_app (a b : List UInt8) : bL a ++ bL b = bL (a ++ b) := by
  apply ByteArray.ext
  simp [bL, ByteArray.data_append]
theorem bL_size (l : List UInt8) : (bL l).size = l.length := by simp [bL, ByteArray.size]
theorem dec_len (u : Nat) : (Lib.decDigits u).length ≤ u + 1 := by
  induction u using Nat.strongRecOn with
  | ind u ih =>
    rw [Lib.decDigits]
    split
    · simp
    · have := ih (u / 10) (by omega)
      rw [List.length_append, List.length_singleton]
      omega
theorem itoa_nat (u : Nat) : Lib.itoa (u : Int) = Lib.decDigits u := by
  unfold Lib.itoa
  rw [if_neg (by omega)]
  simp
theorem itoa_len {n : Int} (h0 : 0 ≤ n) (h1 : n ≤ 1000) : (Lib.itoa n).length ≤ 1001 := by
  obtain ⟨u, rfl⟩ : ∃ u : Nat, n = (u : Int) := ⟨n.toNat, by omega⟩
  rw [itoa_nat]
  have := dec_len u
  omega
/-! ### strconv_Itoa -/
theorem strconv_Itoa_eq {n : Int} (h0 : -9223372036854775808 ≤ n) (h1 : n ≤ 9223372036854775807) : strconv_Itoa.f n = some (bL (Lib.itoa n)) := by
  unfold strconv_Itoa.f handItoa
  rw [if_pos h0, if_pos h1]
  rfl
/-! ### strings_Join -/
theorem strings_Join_eq {L : List (List UInt8)} {sep : List UInt8} (h1 : L.length ≤ 1000) (h2 : (Lib.join L sep).length ≤ 1000000) : strings_Join.f (L.map bL) (bL sep) = some (bL (Lib.join L sep)) := by
  have e : (L.map bL).map (fun b => b.data.toList) = L := by
    rw [List.map_map]
    exact (List.map_congr_left (fun x _ => by simp [bL])).trans (List.map_id L)
  have e2 : (bL sep).data.toList = sep := by simp [bL]
  have e3 : joinB (L.map bL) (bL sep) = bL (Lib.join L sep) := by
    unfold joinB
    rw [e, e2]
    rfl
  unfold strings_Join.f handJoin
  rw [e3, if_pos (by rw [List.length_map]; unfold room; omega), if_pos (by rw [bL_size]; unfold room; omega)]
/-! ### impl_joinNumbers -/
theorem impl_joinNumbers_loop {L : List Int} {sep : List UInt8} (hL : L.length ≤ 1000) (hn : ∀ n ∈ L, -1000 ≤ n ∧ n ≤ 1000) (hj : (Lib.join (L.map Lib.itoa) sep).length ≤ 1000000) (d : Nat) : ∀ i : Nat, i + d = L.length →
    Ev (fun k => impl_joinNumbers.l0 k (bL sep) L (L.length : Int) (i : Int) ((L.take i).map (fun n => bL (Lib.itoa n)) ++ List.replicate (L.length - i) (bs []))) (bL (Lib.join (L.map Lib.itoa) sep)) := by
  induction d with
  | zero =>
    intro i hi
    refine ev_s ?_
    simp only [impl_joinNumbers.b0, impl_joinNumbers.l0, decide_eq_true_eq, Bool.not_eq_true', Bool.not_eq_false', beq_iff_eq, bne_iff_ne, ne_eq, beq_eq_false_iff_ne, bne_eq_false_iff_eq, decide_eq_false_iff_not, Option.bind_some, dlen, dlenN, if_neg (show ¬ (i : Int) < L.length by omega)]
    rw [show L.length - i = 0 by omega, List.take_of_length_le (by omega), List.replicate_zero, List.append_nil, show L.map (fun n => bL (Lib.itoa n)) = (L.map Lib.itoa).map bL by rw [List.map_map]; rfl]
    simp only [strings_Join_eq (L := L.map Lib.itoa) (by simpa using hL) hj, Option.bind_some]
    exact Ev.now _
  | succ d ih =>
    intro i hi
    have h1 := ih (i + 1) (by omega)
    have hm : L.getD i 0 ∈ L := by
      rw [List.getD_eq_getElem?_getD, List.getElem?_eq_getElem (show i < L.length by omega)]
      exact List.getElem_mem _
    have hb := hn _ hm
    rw [← fill_step (fun n => bL (Lib.itoa n)) (0 : Int) (bs []) (show i < L.length by omega)] at h1
    refine ev_s ?_
    simp (disch := omega) only [impl_joinNumbers.b0, impl_joinNumbers.l0, decide_eq_true_eq, Bool.not_eq_true', Bool.not_eq_false', beq_iff_eq, bne_iff_ne, ne_eq, beq_eq_false_iff_ne, bne_eq_false_iff_eq, decide_eq_false_iff_not, Option.bind_some, dlen, dlenN, if_pos (show (i : Int) < L.length by omega), if_pos (show 0 ≤ (i : Int) by omega), rd_nat, castsub, strconv_Itoa_eq (show -9223372036854775808 ≤ L.getD i 0 by omega) (show L.getD i 0 ≤ 9223372036854775807 by omega), Option.bind_some, w64, cs1, fill_len (fun n => bL (Lib.itoa n)) (bs []) (show i ≤ L.length by omega)]
    exact h1
theorem impl_joinNumbers_eq {L : List Int} {sep : List UInt8} (hL : L.length ≤ 1000) (hn : ∀ n ∈ L, -1000 ≤ n ∧ n ≤ 1000) (hj : (Lib.join (L.map Lib.itoa) sep).length ≤ 1000000) : Ev (fun k => impl_joinNumbers.f k L (bL sep)) (bL (Lib.join (L.map Lib.itoa) sep)) := by
  have h := impl_joinNumbers_loop hL hn hj L.length 0 (by omega)
  simp only [impl_joinNumbers.b, impl_joinNumbers.f, dlen, if_pos (show 0 ≤ (L.length : Int) by omega), castsub, if_pos (show (L.length : Int) ≤ L.length by omega), if_pos (show (L.length : Int) * 16 ≤ 140737488355328 by omega)]
  simpa using h
/-! ### base_ptext -/
def cText (v : Clu) : List UInt8 := Lib.itoa v.f0 ++ [46] ++ Lib.itoa v.f1 ++ [46] ++ Lib.itoa v.f2
def puzText (l : List Clu) : List UInt8 := Lib.join (l.map cText) [44]
def pTextSays (l : List Clu) : ByteArray × Bool := if cluOk l = true then (bL (puzText l), true) else (bL [], false)
theorem clue_rng {v : Clu} (h : cGood v = true) : (0 ≤ v.f0 ∧ v.f0 ≤ 4) ∧ (0 ≤ v.f1 ∧ v.f1 ≤ 100) ∧ -12 ≤ v.f2 ∧ v.f2 ≤ 100 := by
  unfold cGood clueOk at h
  split at h
  · have := of_decide_eq_true h; omega
  · split at h
    · have := of_decide_eq_true h; omega
    · split at h
      · have := of_decide_eq_true h; omega
      · split at h
        · have := of_decide_eq_true h; omega
        · have := of_decide_eq_true h; omega
theorem itoa_neg' {n : Int} (h : n < 0) : Lib.itoa n = [45] ++ Lib.itoa (-n) := by
  obtain ⟨u, rfl⟩ : ∃ u : Nat, n = -(u : Int) := ⟨n.natAbs, by omega⟩
  rw [Int.neg_neg, itoa_nat]
  unfold Lib.itoa
  rw [if_pos h, show (-(u : Int)).natAbs = u by omega]
  rfl
theorem itoa_lenA {n : Int} (h0 : -1000 ≤ n) (h1 : n ≤ 1000) : (Lib.itoa n).length ≤ 1002 := by
  by_cases h : n < 0
  · rw [itoa_neg' h, List.length_append, List.length_singleton]
    have := itoa_len (n := -n) (by omega) (by omega)
    omega
  · have := itoa_len (n := n) (by omega) h1
    omega
theorem cText_len {v : Clu} (h : cGood v = true) : (cText v).length ≤ 3010 := by
  have hr := clue_rng h
  have a := itoa_lenA (n := v.f0) (by omega) (by omega)
  have b := itoa_lenA (n := v.f1) (by omega) (by omega)
  have c := itoa_lenA (n := v.f2) (by omega) (by omega)
  simp only [cText, List.length_append, List.length_singleton]
  omega
theorem tail_lenC (r : List (List UInt8)) : (∀ x ∈ r, x.length ≤ 3010) → (Lib.joinTail [44] r).length ≤ 3011 * r.length := by
  induction r with
  | nil => intro _; simp [Lib.joinTail]
  | cons x r ih =>
    intro h
    have h1 := ih (fun y hy => h y (List.mem_cons_of_mem _ hy))
    have h2 := h x List.mem_cons_self
    have e : Lib.joinTail [44] (x :: r) = [44] ++ x ++ Lib.joinTail [44] r := by simp [Lib.joinTail]
    rw [e, List.length_append, List.length_append, List.length_singleton, List.length_cons]
    omega
theorem clu_len {l : List Clu} (h : cluOk l = true) : l.length ≤ 6 := by
  unfold cluOk at h
  rw [Bool.and_eq_true] at h
  exact of_decide_eq_true h.1
theorem clu_mem {l : List Clu} (h : cluOk l = true) {v : Clu} (hv : v ∈ l) : cGood v = true := by
  unfold cluOk at h
  rw [Bool.and_eq_true, List.all_eq_true] at h
  exact h.2 v hv
theorem puzText_len {l : List Clu} (h : cluOk l = true) : (puzText l).length ≤ 30000 := by
  have hl := clu_len h
  unfold puzText
  cases l with
  | nil => simp [Lib.join, List.intercalate]
  | cons v r =>
    rw [List.map_cons, Lib.join_cons, List.length_append]
    have h1 := cText_len (clu_mem h (v := v) List.mem_cons_self)
    have h2 := tail_lenC (r.map cText) (fun x hx => by
      obtain ⟨u, hu, rfl⟩ := List.mem_map.1 hx
      exact cText_len (clu_mem h (List.mem_cons_of_mem _ hu)))
    rw [List.length_map] at h2
    simp only [List.length_cons] at hl
    omega
/-! ### impl_PuzzleText -/
theorem impl_PuzzleText_loop {l : List Clu} (hv : cluOk l = true) (d : Nat) : ∀ i : Nat, i + d = l.length →
    Ev (fun k => impl_PuzzleText.l0 k l (l.length : Int) (i : Int) ((l.take i).map (fun v => bL (cText v)) ++ List.replicate (l.length - i) (bs []))) (bL (puzText l), true) := by
  have hl := clu_len hv
  induction d with
  | zero =>
    intro i hi
    refine ev_s ?_
    have ht := puzText_len hv
    simp only [impl_PuzzleText.b0, impl_PuzzleText.l0, decide_eq_true_eq, Bool.not_eq_true', Bool.not_eq_false', beq_iff_eq, bne_iff_ne, ne_eq, beq_eq_false_iff_ne, bne_eq_false_iff_eq, decide_eq_false_iff_not, Option.bind_some, dlen, dlenN, if_neg (show ¬ (i : Int) < l.length by omega)]
    rw [show l.length - i = 0 by omega, List.take_of_length_le (by omega), List.replicate_zero, List.append_nil, show l.map (fun v => bL (cText v)) = (l.map cText).map bL by rw [List.map_map]; rfl, show bs [44] = bL [44] from rfl]
    unfold puzText at ht ⊢
    simp only [strings_Join_eq (L := l.map cText) (sep := [44]) (by simp; omega) (by omega), Option.bind_some]
    exact Ev.now _
  | succ d ih =>
    intro i hi
    have h1 := ih (i + 1) (by omega)
    have hil : i < l.length := by omega
    have hm : l.getD i ((0, 0, 0) : Clu) ∈ l := by
      rw [List.getD_eq_getElem?_getD, List.getElem?_eq_getElem hil]
      exact List.getElem_mem hil
    have hg := clu_mem hv hm
    have hb := clue_rng hg
    have ej : Lib.join ([(l.getD i ((0, 0, 0) : Clu)).f0, (l.getD i ((0, 0, 0) : Clu)).f1, (l.getD i ((0, 0, 0) : Clu)).f2].map Lib.itoa) [46] = cText (l.getD i ((0, 0, 0) : Clu)) := by
      rw [List.map_cons, Lib.join_cons]
      simp [Lib.joinTail, cText]
    have hj := impl_joinNumbers_eq (L := [(l.getD i ((0, 0, 0) : Clu)).f0, (l.getD i ((0, 0, 0) : Clu)).f1, (l.getD i ((0, 0, 0) : Clu)).f2]) (sep := [46]) (by simp) (fun n hn => by
      simp only [List.mem_cons, List.not_mem_nil, or_false] at hn
      rcases hn with rfl | rfl | rfl <;> omega) (by rw [ej]; have := cText_len hg; omega)
    rw [ej] at hj
    rw [← fill_step (fun v => bL (cText v)) ((0, 0, 0) : Clu) (bs []) hil] at h1
    refine ev_s ?_
    simp (disch := omega) only [impl_PuzzleText.b0, impl_PuzzleText.l0, decide_eq_true_eq, Bool.not_eq_true', Bool.not_eq_false', beq_iff_eq, bne_iff_ne, ne_eq, beq_eq_false_iff_ne, bne_eq_false_iff_eq, decide_eq_false_iff_not, Option.bind_some, dlen, dlenN, if_pos (show (i : Int) < l.length by omega), if_pos (show 0 ≤ (i : Int) by omega), rd_nat, show bs [46] = bL [46] from rfl]
    refine Ev.bind hj ?_
    simp (disch := omega) only [w64, cs1, fill_len (fun v => bL (cText v)) (bs []) (show i ≤ l.length by omega), if_pos (show (i : Int) < l.length by omega)]
    exact h1
theorem impl_PuzzleText_eq (l : List Clu) : Ev (fun k => impl_PuzzleText.f k l) (pTextSays l) := by
  unfold impl_PuzzleText.f impl_PuzzleText.b pTextSays
  refine Ev.bind (impl_IsPuzzle_eq l) ?_
  by_cases h : cluOk l = true
  · have hl := clu_len h
    simp only [h, Bool.not_true, Bool.false_eq_true, if_false, if_true, dlen, if_pos (show 0 ≤ (l.length : Int) by omega), castsub, if_pos (show (l.length : Int) ≤ l.length by omega), if_pos (show (l.length : Int) * 16 ≤ 140737488355328 by omega)]
    simpa using impl_PuzzleText_loop h l.length 0 (by omega)
  · rw [Bool.not_eq_true] at h
    simp only [h, Bool.not_false, if_true, Bool.false_eq_true, if_false]
    exact Ev.now _
/-! ### spec_l1Num -/
theorem spec_l1Num_nat (u : Nat) : u ≤ 1000 → Ev (fun k => spec_l1Num.f k (u : Int)) (bL (Lib.decDigits u)) := by
  induction u using Nat.strongRecOn with
  | ind u ih =>
    intro hu
    refine ev_s ?_
    have nums : ∀ x : Nat, x ≤ 200 → bytesOf [IntKind.wrap .u8 (W (48 + (x : Int)))] = bL [UInt8.ofNat (48 + x)] := by
      intro x hx
      rw [w64 (by omega) (by omega), show IntKind.wrap .u8 (48 + (x : Int)) = 48 + (x : Int) by simp [IntKind.wrap, IntKind.bits, IntKind.signed]; omega]
      show (⟨#[UInt8.ofNat (48 + (x : Int)).toNat]⟩ : ByteArray) = bL [UInt8.ofNat (48 + x)]
      rw [show (48 + (x : Int)).toNat = 48 + x by omega]
      rfl
    rw [Lib.decDigits]
    by_cases h : u < 10
    · rw [dif_pos h]
      simp only [spec_l1Num.b, spec_l1Num.f, decide_eq_true_eq, Bool.not_eq_true', Bool.not_eq_false', beq_iff_eq, bne_iff_ne, ne_eq, beq_eq_false_iff_ne, bne_eq_false_iff_eq, decide_eq_false_iff_not, Option.bind_some, dlen, dlenN, if_pos (show (u : Int) < 10 by omega), nums u (by omega)]
      exact Ev.now _
    · rw [dif_neg h]
      have h1 := ih (u / 10) (by omega) (by omega)
      have e1 : W (Int.tdiv (u : Int) 10) = ((u / 10 : Nat) : Int) := by
        rw [Int.tdiv_eq_ediv_of_nonneg (by omega), w64 (by omega) (by omega)]; omega
      have e2 : Int.tmod (u : Int) 10 = ((u % 10 : Nat) : Int) := by
        rw [Int.tmod_eq_emod_of_nonneg (by omega)]; omega
      have hl := dec_len (u / 10)
      simp only [spec_l1Num.b, spec_l1Num.f, decide_eq_true_eq, Bool.not_eq_true', Bool.not_eq_false', beq_iff_eq, bne_iff_ne, ne_eq, beq_eq_false_iff_ne, bne_eq_false_iff_eq, decide_eq_false_iff_not, Option.bind_some, dlen, dlenN, if_neg (show ¬ (u : Int) < 10 by omega), e1, e2, nums (u % 10) (by omega)]
      refine Ev.bind h1 ?_
      simp only [bL_size, List.length_singleton, if_pos (show (Lib.decDigits (u / 10)).length + 1 ≤ maxLen by unfold maxLen; omega), bL_app]
      exact Ev.now _
theorem spec_l1Num_eq {n : Int} (h0 : 0 ≤ n) (h1 : n ≤ 1000) : Ev (fun k => spec_l1Num.f k n) (bL (Lib.itoa n)) := by
  obtain ⟨u, rfl⟩ : ∃ u : Nat, n = (u : Int) := ⟨n.toNat, by omega⟩
  rw [itoa_nat]
  exact spec_l1Num_nat u (by omega)
/-! ### spec_l1Most -/
theorem spec_l1Most_eq (a b : Int) : spec_l1Most.f a b = some (max a b) := by
  unfold spec_l1Most.f
  simp only [decide_eq_true_eq]
  split
  · rw [show max a b = a by omega]
  · rw [show max a b = b by omega]
/-! ### spec_l1Abs -/
theorem spec_l1Abs_eq {a : Int} (h : -9223372036854775807 ≤ a ∧ a ≤ 9223372036854775807) : spec_l1Abs.f a = some ((a.natAbs : Nat) : Int) := by
  simp only [spec_l1Abs.b, spec_l1Abs.f, spec_l1Most_eq, Option.bind_some]
  rw [w64 (by omega) (by omega), show max a (0 - a) = ((a.natAbs : Nat) : Int) by omega]
/-! ### spec_pzText -/
/-- One clue's text behind what is there. -/
noncomputable def pzStep (k : Nat) (X : ByteArray) (l : List Clu) (n i : Int) (v : Clu) : Option ByteArray :=
  (spec_l1Num.f k v.1).bind fun t0 =>
  if ((ByteArray.size t0) + 1) ≤ maxLen then ((spec_l1Num.f k v.2.1).bind fun t1 =>
  if ((ByteArray.size (t0 ++ (bs [46]))) + (ByteArray.size t1)) ≤ maxLen then (if ((ByteArray.size ((t0 ++ (bs [46])) ++ t1)) + 1) ≤ maxLen then (if ((ByteArray.size X) + (ByteArray.size (((t0 ++ (bs [46])) ++ t1) ++ (bs [46])))) ≤ maxLen then (if (decide (v.2.2 < 0)) = true then (if ((ByteArray.size (X ++ (((t0 ++ (bs [46])) ++ t1) ++ (bs [46])))) + 1) ≤ maxLen then ((spec_l1Abs.f v.2.2).bind fun t2 =>
  (spec_l1Num.f k t2).bind fun t3 =>
  if ((ByteArray.size ((X ++ (((t0 ++ (bs [46])) ++ t1) ++ (bs [46]))) ++ (bs [45]))) + (ByteArray.size t3)) ≤ maxLen then (spec_pzText.l0 k (((X ++ (((t0 ++ (bs [46])) ++ t1) ++ (bs [46]))) ++ (bs [45])) ++ t3) l n (W (i + 1))) else (none)) else (none)) else ((spec_l1Abs.f v.2.2).bind fun t2 =>
  (spec_l1Num.f k t2).bind fun t3 =>
  if ((ByteArray.size (X ++ (((t0 ++ (bs [46])) ++ t1) ++ (bs [46])))) + (ByteArray.size t3)) ≤ maxLen then (spec_pzText.l0 k ((X ++ (((t0 ++ (bs [46])) ++ t1) ++ (bs [46]))) ++ t3) l n (W (i + 1))) else (none))) else (none)) else (none)) else (none)) else (none)
theorem pzText_round (k : Nat) (X : ByteArray) (l : List Clu) (n i : Int) : spec_pzText.l0 (k + 1) X l n i =
    if (decide (i < n)) = true then (if 0 ≤ i then (if i < (dlen l) then (if (decide (i > 0)) = true then (if ((ByteArray.size X) + 1) ≤ maxLen then pzStep k (X ++ bs [44]) l n i (rd ((0, 0, 0) : Clu) l i) else none) else pzStep k X l n i (rd ((0, 0, 0) : Clu) l i)) else none) else none) else some X := rfl
theorem spec_pzText_j1 {v : Clu} (hv : cGood v = true) {X : List UInt8} (hX : X.length ≤ 100000) {l : List Clu} {n : Int} {i : Nat} (hi : i ≤ 1000) {R : ByteArray} (hR : Ev (fun k => spec_pzText.l0 k (bL (X ++ cText v)) l n ((i + 1 : Nat) : Int)) R) :
    Ev (fun k => pzStep k (bL X) l n (i : Int) v) R := by
  have hr := clue_rng hv
  have a := itoa_lenA (n := v.f0) (by omega) (by omega)
  have b := itoa_lenA (n := v.f1) (by omega) (by omega)
  have c46 : bs [46] = bL [46] := rfl
  have c45 : bs [45] = bL [45] := rfl
  have w1 : W ((i : Int) + 1) = ((i + 1 : Nat) : Int) := by rw [w64 (by omega) (by omega)]; rfl
  have g1 : (Lib.itoa v.f0).length + 1 ≤ maxLen := by unfold maxLen; omega
  have g2 : (Lib.itoa v.f0 ++ [46]).length + (Lib.itoa v.f1).length ≤ maxLen := by simp only [List.length_append, List.length_singleton]; unfold maxLen; omega
  have g3 : (Lib.itoa v.f0 ++ [46] ++ Lib.itoa v.f1).length + 1 ≤ maxLen := by simp only [List.length_append, List.length_singleton]; unfold maxLen; omega
  have g4 : X.length + (Lib.itoa v.f0 ++ [46] ++ Lib.itoa v.f1 ++ [46]).length ≤ maxLen := by simp only [List.length_append, List.length_singleton]; unfold maxLen; omega
  unfold pzStep
  refine Ev.bind (spec_l1Num_eq (n := v.f0) (by omega) (by omega)) ?_
  simp only [bL_size, if_pos g1]
  refine Ev.bind (spec_l1Num_eq (n := v.f1) (by omega) (by omega)) ?_
  simp only [c46, c45, bL_app, bL_size, if_pos g2, if_pos g3, if_pos g4]
  have ab : ∀ n : Int, -1000 ≤ n → n ≤ 1000 → spec_l1Abs.f n = some (if n < 0 then -n else n) := by
    intro n h0 h1
    rw [spec_l1Abs_eq (by omega)]
    congr 1
    split <;> omega
  by_cases hn : v.f2 < 0
  · have c := itoa_len (n := -v.f2) (by omega) (by omega)
    have g5 : (X ++ (Lib.itoa v.f0 ++ [46] ++ Lib.itoa v.f1 ++ [46])).length + 1 ≤ maxLen := by simp only [List.length_append, List.length_singleton]; unfold maxLen; omega
    have g6 : (X ++ (Lib.itoa v.f0 ++ [46] ++ Lib.itoa v.f1 ++ [46]) ++ [45]).length + (Lib.itoa (-v.f2)).length ≤ maxLen := by simp only [List.length_append, List.length_singleton]; unfold maxLen; omega
    simp only [decide_eq_true_eq, if_pos (show v.2.2 < 0 from hn), if_pos hn, if_pos g5, show spec_l1Abs.f v.2.2 = _ from ab v.f2 (by omega) (by omega), Option.bind_some]
    refine Ev.bind (spec_l1Num_eq (n := -v.f2) (by omega) (by omega)) ?_
    simp only [bL_app, bL_size, if_pos g6, w1]
    rw [cText, itoa_neg' hn] at hR
    simpa [List.append_assoc] using hR
  · have c := itoa_len (n := v.f2) (by omega) (by omega)
    have g5 : (X ++ (Lib.itoa v.f0 ++ [46] ++ Lib.itoa v.f1 ++ [46])).length + (Lib.itoa v.f2).length ≤ maxLen := by simp only [List.length_append, List.length_singleton]; unfold maxLen; omega
    simp only [decide_eq_true_eq, if_neg (show ¬ v.2.2 < 0 from hn), if_neg hn, show spec_l1Abs.f v.2.2 = _ from ab v.f2 (by omega) (by omega), Option.bind_some]
    refine Ev.bind (spec_l1Num_eq (n := v.f2) (by omega) (by omega)) ?_
    simp only [bL_app, bL_size, if_pos g5, w1]
    rw [cText] at hR
    simpa [List.append_assoc] using hR
theorem spec_pzText_loop {v : Clu} {r : List Clu} (hv : cluOk (v :: r) = true) (d : Nat) : ∀ i : Nat, i + d = r.length →
    Ev (fun k => spec_pzText.l0 k (bL (cText v ++ Lib.joinTail [44] ((r.take i).map cText))) (v :: r) (((v :: r).length : Nat) : Int) ((i + 1 : Nat) : Int)) (bL (cText v ++ Lib.joinTail [44] (r.map cText))) := by
  have hl := clu_len hv
  rw [List.length_cons] at hl
  induction d with
  | zero =>
    intro i hi
    rw [List.take_of_length_le (by omega)]
    refine ev_s ?_
    simp only [pzText_round, decide_eq_true_eq, Bool.not_eq_true', Bool.not_eq_false', beq_iff_eq, bne_iff_ne, ne_eq, beq_eq_false_iff_ne, bne_eq_false_iff_eq, decide_eq_false_iff_not, Option.bind_some, dlen, dlenN, if_neg (show ¬ ((i + 1 : Nat) : Int) < (((v :: r).length : Nat) : Int) by simp; omega)]
    exact Ev.now _
  | succ d ih =>
    intro i hi
    have h := ih (i + 1) (by omega)
    have hil : i < r.length := by omega
    have hu : r.getD i ((0, 0, 0) : Clu) ∈ r := by
      rw [List.getD_eq_getElem?_getD, List.getElem?_eq_getElem hil]
      exact List.getElem_mem hil
    have hb := clu_mem hv (List.mem_cons_of_mem _ hu)
    have e : Lib.joinTail [44] ((r.take (i + 1)).map cText) = Lib.joinTail [44] ((r.take i).map cText) ++ ([44] ++ cText (r.getD i ((0, 0, 0) : Clu))) := by
      rw [take_snoc' ((0, 0, 0) : Clu) hil, List.map_append]
      simp [Lib.joinTail]
    have hlen : (cText v ++ Lib.joinTail [44] ((r.take i).map cText)).length ≤ 30000 := by
      have h1 := cText_len (clu_mem hv (v := v) List.mem_cons_self)
      have h2 := tail_lenC ((r.take i).map cText) (fun x hx => by
        obtain ⟨u, hu, rfl⟩ := List.mem_map.1 hx
        exact cText_len (clu_mem hv (List.mem_cons_of_mem _ (List.mem_of_mem_take hu))))
      rw [List.length_map, List.length_take] at h2
      rw [List.length_append]
      omega
    rw [e, ← List.append_assoc, ← List.append_assoc] at h
    refine ev_s ?_
    have hg : (v :: r).getD (i + 1) ((0, 0, 0) : Clu) = r.getD i ((0, 0, 0) : Clu) := by simp
    simp only [pzText_round, decide_eq_true_eq, Bool.not_eq_true', Bool.not_eq_false', beq_iff_eq, bne_iff_ne, ne_eq, beq_eq_false_iff_ne, bne_eq_false_iff_eq, decide_eq_false_iff_not, Option.bind_some, dlen, dlenN, if_pos (show ((i + 1 : Nat) : Int) < (((v :: r).length : Nat) : Int) by simp; omega), if_pos (show 0 ≤ ((i + 1 : Nat) : Int) by omega), if_pos (show ((i + 1 : Nat) : Int) > 0 by omega), bL_size, if_pos (show (cText v ++ Lib.joinTail [44] ((r.take i).map cText)).length + 1 ≤ maxLen by unfold maxLen; omega), rd_nat, hg, show bs [44] = bL [44] from rfl, bL_app]
    exact spec_pzText_j1 hb (by rw [List.length_append, List.length_singleton]; omega) (by omega) h
theorem spec_pzText_eq {l : List Clu} (hv : cluOk l = true) : Ev (fun k => spec_pzText.f k l) (bL (puzText l)) := by
  cases l with
  | nil =>
    unfold spec_pzText.f spec_pzText.b puzText
    refine ev_s ?_
    simp only [pzText_round, decide_eq_true_eq, Bool.not_eq_true', Bool.not_eq_false', beq_iff_eq, bne_iff_ne, ne_eq, beq_eq_false_iff_ne, bne_eq_false_iff_eq, decide_eq_false_iff_not, Option.bind_some, dlen, dlenN, if_neg (show ¬ (0 : Int) < ((([] : List Clu).length : Nat) : Int) by simp)]
    exact ev_now rfl
  | cons v r =>
    have h := spec_pzText_loop hv r.length 0 (by omega)
    have hb := clu_mem hv (v := v) List.mem_cons_self
    unfold spec_pzText.f spec_pzText.b puzText
    rw [List.map_cons, Lib.join_cons]
    refine ev_s ?_
    have hg : (v :: r).getD 0 ((0, 0, 0) : Clu) = v := rfl
    simp only [pzText_round, decide_eq_true_eq, Bool.not_eq_true', Bool.not_eq_false', beq_iff_eq, bne_iff_ne, ne_eq, beq_eq_false_iff_ne, bne_eq_false_iff_eq, decide_eq_false_iff_not, Option.bind_some, dlen, dlenN, if_pos (show (0 : Int) < (((v :: r).length : Nat) : Int) by rw [List.length_cons]; omega), if_pos (show (0 : Int) ≤ 0 by omega), if_neg (show ¬ (0 : Int) > 0 by omega), rd_nat, show (0 : Int).toNat = 0 from rfl, hg, show bs [] = bL [] from rfl]
    refine spec_pzText_j1 (i := 0) hb (by simp) (by omega) ?_
    simpa [Lib.joinTail] using h
/-! ### spec_PuzzleText -/
theorem spec_PuzzleText_eq (l : List Clu) : Ev (fun k => spec_PuzzleText.f k l) (pTextSays l) := by
  unfold spec_PuzzleText.f spec_PuzzleText.b pTextSays
  refine Ev.bind (spec_pzGood_eq l) ?_
  by_cases h : cluOk l = true
  · simp only [h, Bool.not_true, Bool.false_eq_true, if_false, if_true]
    exact Ev.bind (spec_pzText_eq h) (Ev.now _)
  · rw [Bool.not_eq_true] at h
    simp only [h, Bool.not_false, if_true, Bool.false_eq_true, if_false]
    exact Ev.now _
/-! ### laws_qSnails -/
theorem laws_qSnails_loop {l : List Sna} (hl : l.length ≤ 9223372036854775806) (d : Nat) : ∀ i : Nat, i + d = l.length → Ev (fun k => laws_qSnails.l0 k l l (l.length : Int) (i : Int)) true := by
  induction d with
  | zero =>
    intro i hi
    refine ev_s ?_
    simp only [laws_qSnails.b0, laws_qSnails.l0, decide_eq_true_eq, Bool.not_eq_true', Bool.not_eq_false', beq_iff_eq, bne_iff_ne, ne_eq, beq_eq_false_iff_ne, bne_eq_false_iff_eq, decide_eq_false_iff_not, Option.bind_some, dlen, dlenN, if_neg (show ¬ (i : Int) < l.length by omega)]
    exact Ev.now _
  | succ d ih =>
    intro i hi
    refine ev_s ?_
    simp (disch := omega) only [laws_qSnails.b0, laws_qSnails.l0, decide_eq_true_eq, Bool.not_eq_true', Bool.not_eq_false', beq_iff_eq, bne_iff_ne, ne_eq, beq_eq_false_iff_ne, bne_eq_false_iff_eq, decide_eq_false_iff_not, Option.bind_some, dlen, dlenN, if_pos (show (i : Int) < l.length by omega), if_pos (show 0 ≤ (i : Int) by omega), beq_self_eq_true, Bool.and_self, Bool.true_eq_false, if_false, w64, cs1]
    exact ih (i + 1) (by omega)
theorem laws_qSnails_same {l : List Sna} (hl : l.length ≤ 9223372036854775806) : Ev (fun k => laws_qSnails.f k l l) true := by
  simp only [laws_qSnails.b, laws_qSnails.f, decide_eq_true_eq, Bool.not_eq_true', Bool.not_eq_false', beq_iff_eq, bne_iff_ne, ne_eq, beq_eq_false_iff_ne, bne_eq_false_iff_eq, decide_eq_false_iff_not, Option.bind_some, dlen, dlenN, not_true_eq_false, if_false]
  exact laws_qSnails_loop hl l.length 0 (by omega)
/-! ### laws_qSame -/
theorem laws_qSame_loop {l : List Int} (hl : l.length ≤ 9223372036854775806) (d : Nat) : ∀ i : Nat, i + d = l.length → Ev (fun k => laws_qSame.l0 k l l (l.length : Int) (i : Int)) true := by
  induction d with
  | zero =>
    intro i hi
    refine ev_s ?_
    simp only [laws_qSame.b0, laws_qSame.l0, decide_eq_true_eq, Bool.not_eq_true', Bool.not_eq_false', beq_iff_eq, bne_iff_ne, ne_eq, beq_eq_false_iff_ne, bne_eq_false_iff_eq, decide_eq_false_iff_not, Option.bind_some, dlen, dlenN, if_neg (show ¬ (i : Int) < l.length by omega)]
    exact Ev.now _
  | succ d ih =>
    intro i hi
    refine ev_s ?_
    simp (disch := omega) only [laws_qSame.b0, laws_qSame.l0, decide_eq_true_eq, Bool.not_eq_true', Bool.not_eq_false', beq_iff_eq, bne_iff_ne, ne_eq, beq_eq_false_iff_ne, bne_eq_false_iff_eq, decide_eq_false_iff_not, Option.bind_some, dlen, dlenN, if_pos (show (i : Int) < l.length by omega), if_pos (show 0 ≤ (i : Int) by omega), not_true_eq_false, if_false, w64, cs1]
    exact ih (i + 1) (by omega)
theorem laws_qSame_same {l : List Int} (hl : l.length ≤ 9223372036854775806) : Ev (fun k => laws_qSame.f k l l) true := by
  simp only [laws_qSame.b, laws_qSame.f, decide_eq_true_eq, Bool.not_eq_true', Bool.not_eq_false', beq_iff_eq, bne_iff_ne, ne_eq, beq_eq_false_iff_ne, bne_eq_false_iff_eq, decide_eq_false_iff_not, Option.bind_some, dlen, dlenN, not_true_eq_false, if_false]
  exact laws_qSame_loop hl l.length 0 (by omega)
/-! ### spec_IsPuzzle -/
theorem spec_IsPuzzle_eq (l : List Clu) : Ev (fun k => spec_IsPuzzle.f k l) (cluOk l) := by
  unfold spec_IsPuzzle.f spec_IsPuzzle.b
  exact Ev.bind (spec_pzGood_eq l) (Ev.now _)
/-! ### base_splitL -/
/-- A list of bytes cut at each of one byte. -/
def splitL (c : UInt8) : List UInt8 → List (List UInt8)
  | [] => [[]]
  | b :: l => if b = c then [] :: splitL c l else match splitL c l with
    | [] => [[b]]
    | w :: ws => (b :: w) :: ws
theorem splitL_ne (c : UInt8) : ∀ l : List UInt8, splitL c l ≠ []
  | [] => by simp [splitL]
  | b :: l => by
    unfold splitL
    split
    · simp
    · split <;> simp
/-! ### base_split -/
theorem splitK_one (c : UInt8) : ∀ l : List UInt8, Lib.splitK [c] 0 (Lib.count l [c]) l = splitL c l
  | [] => by rw [Lib.count_one]; simp [Lib.splitK, splitL]
  | b :: l => by
    have ih := splitK_one c l
    by_cases h : b = c
    · subst h
      rw [Lib.count_cons_eq, Nat.add_comm, Lib.splitK]
      have hix : Lib.index (b :: l) [b] = ((0 : Nat) : Int) := by rw [Lib.index]; simp [List.isPrefixOf]
      rw [hix]
      simp [splitL, ih]
    · rw [Lib.count_cons_ne b c l h]
      have hp : ([c] : List UInt8).isPrefixOf (b :: l) = false := by simp [List.isPrefixOf, Ne.symm h]
      have hix : Lib.index (b :: l) [c] = if Lib.index l [c] == -1 then -1 else Lib.index l [c] + 1 := by rw [Lib.index, hp]; simp
      rw [splitL, if_neg h, ← ih]
      by_cases hm : Lib.index l [c] = -1
      · rw [Lib.count_miss hm]
        simp [Lib.splitK]
      · have hge := Lib.index_ge l [c]
        obtain ⟨j, hj⟩ : ∃ j : Nat, Lib.index l [c] = j := ⟨(Lib.index l [c]).toNat, by omega⟩
        have hix' : Lib.index (b :: l) [c] = ((j + 1 : Nat) : Int) := by rw [hix, if_neg (fun e => hm (beq_iff_eq.1 e)), hj]; omega
        rw [Lib.count_hit (by simp) hj, Nat.add_comm, Lib.splitK, Lib.splitK, hj, hix']
        have a1 : ¬ ((((j + 1 : Nat) : Int)) == -1) = true := by intro e; have := beq_iff_eq.1 e; omega
        have a2 : ¬ ((((j : Nat) : Int)) == -1) = true := by intro e; have := beq_iff_eq.1 e; omega
        rw [if_neg a1, if_neg a2]
        simp
theorem split_list (c : UInt8) (s : ByteArray) : (Lib.splitB ⟨#[c]⟩ 0 (Lib.countB s ⟨#[c]⟩) s).map (·.data.toList) = splitL c s.data.toList := by
  rw [Lib.splitB_data]
  exact splitK_one c _
theorem atoi_smallF : ∀ m : Fin 213, Lib.atoiAll (Lib.itoa ((m.val : Int) - 12)) = .ok ((m.val : Int) - 12) := by decide +kernel
theorem atoi_small {n : Int} (h0 : -12 ≤ n) (h1 : n ≤ 200) : Lib.atoiAll (Lib.itoa n) = .ok n := by
  have h := atoi_smallF ⟨(n + 12).toNat, by omega⟩
  have e : (((n + 12).toNat : Nat) : Int) - 12 = n := by omega
  simpa only [e] using h
/-! ### base_parse -/
theorem bL_toL (s : ByteArray) : bL s.data.toList = s := by
  apply ByteArray.ext
  simp [bL]
theorem toL_bL (l : List UInt8) : (bL l).data.toList = l := by simp [bL]
theorem bL_split (c : UInt8) (l : List UInt8) : Lib.splitB ⟨#[c]⟩ 0 (Lib.countB (bL l) ⟨#[c]⟩) (bL l) = (splitL c l).map bL := by
  have h := congrArg (List.map bL) (split_list c (bL l))
  rw [toL_bL, List.map_map] at h
  rw [← h]
  have e : (bL ∘ fun s : ByteArray => s.data.toList) = id := by funext s; exact bL_toL s
  rw [e, List.map_id]
theorem bL_extract (l : List UInt8) (a b : Nat) : (bL l).extract a b = bL ((l.take b).drop a) := by
  apply ByteArray.ext
  simp [bL, ByteArray.data_extract, List.drop_take]
theorem bat_bL {l : List UInt8} {i : Nat} (h : i < l.length) : bat (bL l) (i : Int) = ((l.getD i 0).toNat : Int) := by
  unfold bat
  rw [toL_bL, castsub]
theorem rd_bL (xs : List (List UInt8)) (i : Nat) : rd (bs []) (xs.map bL) (i : Int) = bL (xs.getD i []) := by
  rw [rd_nat, List.getD_eq_getElem?_getD, List.getD_eq_getElem?_getD, List.getElem?_map]
  cases xs[i]? with
  | none => rfl
  | some x => rfl
theorem splitL_length (c : UInt8) : ∀ l : List UInt8, (splitL c l).length ≤ l.length + 1
  | [] => by simp [splitL]
  | b :: l => by
    have ih := splitL_length c l
    unfold splitL
    split
    · simp; omega
    · split
      · simp
      · rename_i w ws h
        rw [h] at ih
        simp at ih ⊢; omega
theorem splitL_mem (c : UInt8) : ∀ (l : List UInt8) (w : List UInt8), w ∈ splitL c l → w.length ≤ l.length
  | [], w, h => by simp [splitL] at h; subst h; simp
  | b :: l, w, h => by
    have ih := splitL_mem c l
    unfold splitL at h
    split at h
    · rcases List.mem_cons.1 h with rfl | h
      · simp
      · have := ih w h; simp; omega
    · split at h
      · simp at h; subst h; simp
      · rename_i x xs hx
        rw [hx] at ih
        rcases List.mem_cons.1 h with rfl | h
        · have := ih x List.mem_cons_self; simp; omega
        · have := ih w (List.mem_cons_of_mem _ h); simp; omega
theorem splitL_sum (c : UInt8) : ∀ l : List UInt8, ((splitL c l).map (fun w => w.length + 1)).sum = l.length + 1
  | [] => by simp [splitL]
  | b :: l => by
    have ih := splitL_sum c l
    unfold splitL
    split
    · simp [ih]; omega
    · split
      · rename_i h; exact absurd h (splitL_ne c l)
      · rename_i w ws h
        rw [h] at ih
        simp at ih ⊢; omega
theorem splitL_no (c : UInt8) : ∀ l : List UInt8, c ∉ l → splitL c l = [l]
  | [], _ => rfl
  | b :: l, h => by
    have hb : ¬ b = c := fun e => h (by rw [e]; exact List.mem_cons_self)
    have hl : c ∉ l := fun e => h (List.mem_cons_of_mem _ e)
    unfold splitL
    rw [if_neg hb, splitL_no c l hl]
theorem splitL_app (c : UInt8) (r : List UInt8) : ∀ l : List UInt8, c ∉ l → splitL c (l ++ c :: r) = l :: splitL c r
  | [], _ => by simp [splitL]
  | b :: l, h => by
    have hb : ¬ b = c := fun e => h (by rw [e]; exact List.mem_cons_self)
    have hl : c ∉ l := fun e => h (List.mem_cons_of_mem _ e)
    rw [List.cons_append, splitL, if_neg hb, splitL_app c r l hl]
/-- The number that a text spells in its one way, and whether it does. -/
def numOf (l : List UInt8) : Int × Bool := match Lib.atoiAll l with | .ok n => if Lib.itoa n = l then (n, true) else (0, false) | _ => (0, false)
theorem numOf_is {l : List UInt8} (h : (numOf l).2 = true) : l = Lib.itoa (numOf l).1 := by
  unfold numOf at *
  cases hA : Lib.atoiAll l with
  | ok n =>
    rw [hA] at h
    by_cases hi : Lib.itoa n = l
    · simp only [if_pos hi]; exact hi.symm
    · simp only [if_neg hi] at h; cases h
  | _ => rw [hA] at h; cases h
theorem numOf_small {n : Int} (h0 : -12 ≤ n) (h1 : n ≤ 200) : numOf (Lib.itoa n) = (n, true) := by
  unfold numOf
  rw [atoi_small h0 h1]
  simp
def numsOf : List (List UInt8) → Option (List Int)
  | [] => some []
  | w :: ws => if (numOf w).2 = true then (numsOf ws).map ((numOf w).1 :: ·) else none
def numsSays (c : UInt8) (l : List UInt8) : List Int × Bool := match numsOf (splitL c l) with | some r => (r, true) | none => ([], false)
/-- What the reference's reading of digits gives. -/
def digs (acc : Int) : List UInt8 → Int
  | [] => acc
  | b :: r => if b.toNat < 48 ∨ 57 < b.toNat then -1 else digs (10 * acc + ((b.toNat : Int) - 48)) r
def l1r (l : List UInt8) : Int := if l.length < 1 ∨ 6 < l.length ∨ (l.getD 0 0 = 48 ∧ 1 < l.length) then -1 else digs 0 l
theorem digs_ge : ∀ (l : List UInt8) (acc : Int), 0 ≤ acc → digs acc l = -1 ∨ acc ≤ digs acc l
  | [], acc, _ => Or.inr (Int.le_refl _)
  | b :: r, acc, h => by
    unfold digs
    split
    · exact Or.inl rfl
    · have := digs_ge r (10 * acc + ((b.toNat : Int) - 48)) (by omega)
      omega
theorem dec_snoc {q d : Nat} (hq : 0 < q) (hd : d < 10) : Lib.decDigits (10 * q + d) = Lib.decDigits q ++ [UInt8.ofNat (48 + d)] := by
  rw [Lib.decDigits, dif_neg (by omega), show (10 * q + d) / 10 = q by omega, show (10 * q + d) % 10 = d by omega]
theorem dec_one {d : Nat} (hd : d < 10) : Lib.decDigits d = [UInt8.ofNat (48 + d)] := by
  rw [Lib.decDigits, dif_pos hd]
theorem byte_of {b : UInt8} {n : Nat} (h : b.toNat = n) : UInt8.ofNat n = b := by
  rw [← h]; simp
theorem l1r_is {l : List UInt8} {n : Int} (h : l1r l = n) (h0 : 0 ≤ n) (h1 : n ≤ 200) : l = Lib.itoa n := by
  unfold l1r at h
  split at h
  · omega
  rename_i hc
  have hg : ∀ (b : UInt8) (r : List UInt8) (acc : Int), digs acc (b :: r) = n → (48 ≤ b.toNat ∧ b.toNat ≤ 57) ∧ digs (10 * acc + ((b.toNat : Int) - 48)) r = n := by
    intro b r acc h
    unfold digs at h
    split at h
    · omega
    · exact ⟨by omega, h⟩
  match l, h, hc with
  | [], _, hc => simp at hc
  | [a], h, hc =>
    obtain ⟨ha, h⟩ := hg a _ _ h
    simp only [digs] at h
    obtain ⟨m, rfl⟩ : ∃ m : Nat, n = (m : Int) := ⟨n.toNat, by omega⟩
    rw [itoa_nat, dec_one (by omega), byte_of (b := a) (by omega)]
  | [a, b], h, hc =>
    obtain ⟨ha, h⟩ := hg a _ _ h
    obtain ⟨hb, h⟩ := hg b _ _ h
    simp only [digs] at h
    have ha0 : a.toNat ≠ 48 := by
      intro e
      have : a = 48 := UInt8.toNat_inj.1 e
      simp [this] at hc
    obtain ⟨m, rfl⟩ : ∃ m : Nat, n = (m : Int) := ⟨n.toNat, by omega⟩
    have e : m = 10 * (a.toNat - 48) + (b.toNat - 48) := by omega
    rw [itoa_nat, e, dec_snoc (by omega) (by omega), dec_one (by omega), byte_of (b := a) (by omega), byte_of (b := b) (by omega)]
    rfl
  | [a, b, c], h, hc =>
    obtain ⟨ha, h⟩ := hg a _ _ h
    obtain ⟨hb, h⟩ := hg b _ _ h
    obtain ⟨hd, h⟩ := hg c _ _ h
    simp only [digs] at h
    have ha0 : a.toNat ≠ 48 := by
      intro e
      have : a = 48 := UInt8.toNat_inj.1 e
      simp [this] at hc
    obtain ⟨m, rfl⟩ : ∃ m : Nat, n = (m : Int) := ⟨n.toNat, by omega⟩
    have e : m = 10 * (10 * (a.toNat - 48) + (b.toNat - 48)) + (c.toNat - 48) := by omega
    rw [itoa_nat, e, dec_snoc (by omega) (by omega), dec_snoc (by omega) (by omega), dec_one (by omega), byte_of (b := a) (by omega), byte_of (b := b) (by omega), byte_of (b := c) (by omega)]
    rfl
  | a :: b :: c :: d :: r, h, hc =>
    obtain ⟨ha, h⟩ := hg a _ _ h
    obtain ⟨hb, h⟩ := hg b _ _ h
    obtain ⟨hd, h⟩ := hg c _ _ h
    obtain ⟨he, h⟩ := hg d _ _ h
    have ha0 : a.toNat ≠ 48 := by
      intro e
      have : a = 48 := UInt8.toNat_inj.1 e
      simp [this] at hc
    have := digs_ge r _ (show (0 : Int) ≤ 10 * (10 * (10 * (10 * 0 + ((a.toNat : Int) - 48)) + ((b.toNat : Int) - 48)) + ((c.toNat : Int) - 48)) + ((d.toNat : Int) - 48) by omega)
    omega
theorem l1r_smallF : ∀ m : Fin 201, l1r (Lib.itoa (m.val : Int)) = (m.val : Int) := by decide +kernel
theorem l1r_small {n : Int} (h0 : 0 ≤ n) (h1 : n ≤ 200) : l1r (Lib.itoa n) = n := by
  have h := l1r_smallF ⟨n.toNat, by omega⟩
  have e : ((n.toNat : Nat) : Int) = n := by omega
  simpa only [e] using h
theorem itoa_plainF : ∀ m : Fin 213, (Lib.itoa ((m.val : Int) - 12)).all (fun b => b != 43 && b != 44 && b != 46) = true ∧ (Lib.itoa ((m.val : Int) - 12)).length ≤ 3 := by decide +kernel
theorem itoa_plain {n : Int} (h0 : -12 ≤ n) (h1 : n ≤ 200) : ((43 ∉ Lib.itoa n ∧ 44 ∉ Lib.itoa n) ∧ 46 ∉ Lib.itoa n) ∧ (Lib.itoa n).length ≤ 3 := by
  have h := itoa_plainF ⟨(n + 12).toNat, by omega⟩
  have e : (((n + 12).toNat : Nat) : Int) - 12 = n := by omega
  simp only [e] at h
  refine ⟨⟨⟨?_, ?_⟩, ?_⟩, h.2⟩ <;> intro hm <;> have := List.all_eq_true.1 h.1 _ hm <;> simp at this
/-! ### strings_Split -/
theorem strings_Split_eq {l : List UInt8} (h : l.length ≤ 2000000) (c : UInt8) : strings_Split.f (bL l) (bL [c]) = some ((splitL c l).map bL) := by
  unfold strings_Split.f handSplit splitsB
  rw [if_pos (by rw [bL_size]; omega), if_pos (by rw [bL_size]; simp), show bL [c] = ⟨#[c]⟩ from rfl, bL_split]
/-! ### impl_readNumber -/
theorem impl_readNumber_eq {l : List UInt8} (h : l.length ≤ 2000000) : impl_readNumber.f (bL l) = some (numOf l) := by
  unfold impl_readNumber.f handNumber numB numOf
  rw [if_pos (by rw [bL_size]; omega), toL_bL]
  cases Lib.atoiAll l <;> rfl
/-! ### impl_readNumbers -/
theorem readNumbers_loop {ws : List (List UInt8)} (hl : ws.length ≤ 2000000) (hw : ∀ w ∈ ws, w.length ≤ 2000000) (d : Nat) : ∀ (i : Nat) (acc : List Int), acc.length = i → i + d = ws.length →
    Ev (fun k => impl_readNumbers.l0 k (ws.map bL) (ws.length : Int) (i : Int) acc) (match numsOf (ws.drop i) with | some r => (acc ++ r, true) | none => ([], false)) := by
  induction d with
  | zero =>
    intro i acc ha hi
    rw [List.drop_eq_nil_of_le (by omega)]
    refine ev_s ?_
    simp only [impl_readNumbers.b0, impl_readNumbers.l0, decide_eq_true_eq, Bool.not_eq_true', Bool.not_eq_false', beq_iff_eq, bne_iff_ne, ne_eq, beq_eq_false_iff_ne, bne_eq_false_iff_eq, decide_eq_false_iff_not, Option.bind_some, dlen, dlenN, if_neg (show ¬ (i : Int) < ws.length by omega), numsOf, List.append_nil]
    exact Ev.now _
  | succ d ih =>
    intro i acc ha hi
    have hil : i < ws.length := by omega
    have h := ih (i + 1) (acc ++ [(numOf (ws.getD i [])).1]) (by simp [ha]) (by omega)
    have hm : ws.getD i [] ∈ ws := by
      rw [List.getD_eq_getElem?_getD, List.getElem?_eq_getElem hil]
      exact List.getElem_mem hil
    rw [drop_cons [] hil]
    refine ev_s ?_
    simp (disch := omega) only [impl_readNumbers.b0, impl_readNumbers.l0, decide_eq_true_eq, Bool.not_eq_true', Bool.not_eq_false', beq_iff_eq, bne_iff_ne, ne_eq, beq_eq_false_iff_ne, bne_eq_false_iff_eq, decide_eq_false_iff_not, Option.bind_some, dlen, dlenN, List.length_map, if_pos (show (i : Int) < ws.length by omega), if_pos (show 0 ≤ (i : Int) by omega), rd_bL, impl_readNumber_eq (hw _ hm), Option.bind_some, if_pos (show acc.length + 1 ≤ 17592186044416 by omega), castsub, w64, cs1]
    unfold numsOf
    cases hn : (numOf (ws.getD i [])).2 with
    | true =>
      simp only [Bool.true_eq_false, if_false, if_true]
      cases hr : numsOf (ws.drop (i + 1)) with
      | none => rw [hr] at h; simpa using h
      | some r => rw [hr] at h; simpa using h
    | false =>
      simp only [if_true, Bool.false_eq_true, if_false]
      exact Ev.now _
theorem impl_readNumbers_eq {l : List UInt8} (h : l.length ≤ 1900000) (c : UInt8) : Ev (fun k => impl_readNumbers.f k (bL l) (bL [c])) (numsSays c l) := by
  simp only [impl_readNumbers.b, impl_readNumbers.f, decide_eq_true_eq, Bool.not_eq_true', Bool.not_eq_false', beq_iff_eq, bne_iff_ne, ne_eq, beq_eq_false_iff_ne, bne_eq_false_iff_eq, decide_eq_false_iff_not, Option.bind_some, dlen, dlenN, strings_Split_eq (show l.length ≤ 2000000 by omega), Option.bind_some, List.length_map]
  have := splitL_length c l
  have h0 := readNumbers_loop (ws := splitL c l) (by omega) (fun w hw => by have := splitL_mem c l w hw; omega) (splitL c l).length 0 [] rfl (by omega)
  simpa [numsSays] using h0
/-! ### base_join -/
theorem splitL_join (c : UInt8) : ∀ l : List UInt8, Lib.join (splitL c l) [c] = l
  | [] => by simp [splitL, Lib.join, List.intercalate]
  | b :: l => by
    have ih := splitL_join c l
    have hj : ∀ w ws, Lib.joinTail [c] (w :: ws) = c :: (w ++ Lib.joinTail [c] ws) := by intro w ws; simp [Lib.joinTail]
    obtain ⟨w, ws, h⟩ : ∃ w ws, splitL c l = w :: ws := by
      cases h : splitL c l with
      | nil => exact absurd h (splitL_ne c l)
      | cons w ws => exact ⟨w, ws, rfl⟩
    unfold splitL
    rw [h, Lib.join_cons] at ih
    split
    · rename_i hb
      rw [h, Lib.join_cons, hj, ih, hb]; rfl
    · rw [h]
      simp only []
      rw [Lib.join_cons, List.cons_append, ih]
theorem splitL_of_join (c : UInt8) : ∀ xs : List (List UInt8), xs ≠ [] → (∀ x ∈ xs, c ∉ x) → splitL c (Lib.join xs [c]) = xs
  | [], h, _ => absurd rfl h
  | [x], _, h => by
    rw [Lib.join_cons]
    simp only [Lib.joinTail, List.map_nil, List.flatten_nil, List.append_nil]
    exact splitL_no c x (h x List.mem_cons_self)
  | x :: y :: r, _, h => by
    have ih := splitL_of_join c (y :: r) (by simp) (fun z hz => h z (List.mem_cons_of_mem _ hz))
    rw [Lib.join_cons] at ih ⊢
    have hj : Lib.joinTail [c] (y :: r) = c :: (y ++ Lib.joinTail [c] r) := by simp [Lib.joinTail]
    rw [hj, splitL_app c _ x (h x List.mem_cons_self), ih]
/-! ### base_nums -/
/-- A word that the program reads as numbers: they are the pieces' own. -/
theorem nums_is {ws : List (List UInt8)} {r : List Int} (h : numsOf ws = some r) : ws = r.map Lib.itoa := by
  induction ws generalizing r with
  | nil => simp [numsOf] at h; subst h; rfl
  | cons w ws ih =>
    unfold numsOf at h
    by_cases hn : (numOf w).2 = true
    · rw [if_pos hn] at h
      cases hr : numsOf ws with
      | none => rw [hr] at h; simp at h
      | some r' =>
        rw [hr] at h
        simp at h
        subst h
        rw [List.map_cons, ← numOf_is hn, ← ih hr]
    · rw [if_neg hn] at h; simp at h
theorem nums_of {r : List Int} (h : ∀ n ∈ r, -12 ≤ n ∧ n ≤ 200) : numsOf (r.map Lib.itoa) = some r := by
  induction r with
  | nil => rfl
  | cons n r ih =>
    have h1 := h n List.mem_cons_self
    rw [List.map_cons, numsOf, numOf_small h1.1 h1.2, ih (fun m hm => h m (List.mem_cons_of_mem _ hm))]
    simp
theorem numsSays_is {c : UInt8} {l : List UInt8} (h : (numsSays c l).2 = true) : splitL c l = (numsSays c l).1.map Lib.itoa := by
  unfold numsSays at *
  cases hr : numsOf (splitL c l) with
  | none => rw [hr] at h; simp at h
  | some r => exact nums_is hr
theorem numsSays_of {c : UInt8} {l : List UInt8} {r : List Int} (h : splitL c l = r.map Lib.itoa) (hr : ∀ n ∈ r, -12 ≤ n ∧ n ≤ 200) : numsSays c l = (r, true) := by
  unfold numsSays
  rw [h, nums_of hr]
theorem numsSays_len (c : UInt8) (l : List UInt8) : (numsSays c l).1.length ≤ l.length + 1 := by
  unfold numsSays
  cases hr : numsOf (splitL c l) with
  | none => simp
  | some r =>
    have := congrArg List.length (nums_is hr)
    have := splitL_length c l
    simp at *
    omega
/-! ### base_pp -/
/-- The clues that the program reads. -/
def trips : List (List UInt8) → Option (List Clu)
  | [] => some []
  | w :: ws => if (numsSays 46 w).2 = true ∧ (numsSays 46 w).1.length = 3 then (trips ws).map (⟨(numsSays 46 w).1.getD 0 0, (numsSays 46 w).1.getD 1 0, (numsSays 46 w).1.getD 2 0⟩ :: ·) else none
/-- The last number of a clue, as the reference reads it. -/
def l1b (l : List UInt8) : Int := if 1 < l.length ∧ l.getD 0 0 = 45 then -(l1r (l.drop 1)) else l1r l
/-- The clues that the reference reads. -/
def tripsR : List (List UInt8) → Option (List Clu)
  | [] => some []
  | w :: ws => if (splitL 46 w).length = 3 then (tripsR ws).map (⟨l1r ((splitL 46 w).getD 0 []), l1r ((splitL 46 w).getD 1 []), l1b ((splitL 46 w).getD 2 [])⟩ :: ·) else none
def cluIf (o : Option (List Clu)) : List Clu × Bool := match o with | some cs => if cluOk cs = true then (cs, true) else ([], false) | none => ([], false)
def cluIfR (l : List UInt8) (o : Option (List Clu)) : List Clu × Bool := match o with | some cs => if cluOk cs = true ∧ puzText cs = l then (cs, true) else ([], false) | none => ([], false)
def ppSays (l : List UInt8) : List Clu × Bool := if l = [] then ([], true) else cluIf (trips (splitL 44 l))
def ppSaysR (l : List UInt8) : List Clu × Bool := if 100 < l.length then ([], false) else if l = [] then ([], true) else cluIfR l (tripsR (splitL 44 l))
theorem three_of {α : Type} {l : List α} (h : l.length = 3) : ∃ a b c, l = [a, b, c] := by
  match l, h with
  | [a, b, c], _ => exact ⟨a, b, c, rfl⟩
theorem l1b_smallF : ∀ m : Fin 113, l1b (Lib.itoa ((m.val : Int) - 12)) = (m.val : Int) - 12 := by decide +kernel
theorem l1b_small {n : Int} (h0 : -12 ≤ n) (h1 : n ≤ 100) : l1b (Lib.itoa n) = n := by
  have h := l1b_smallF ⟨(n + 12).toNat, by omega⟩
  have e : (((n + 12).toNat : Nat) : Int) - 12 = n := by omega
  simpa only [e] using h
theorem cText_split {v : Clu} (h : cGood v = true) : splitL 46 (cText v) = [v.f0, v.f1, v.f2].map Lib.itoa := by
  have hr := clue_rng h
  have p0 := itoa_plain (n := v.f0) (by omega) (by omega)
  have p1 := itoa_plain (n := v.f1) (by omega) (by omega)
  have p2 := itoa_plain (n := v.f2) (by omega) (by omega)
  have e : cText v = Lib.itoa v.f0 ++ 46 :: (Lib.itoa v.f1 ++ 46 :: Lib.itoa v.f2) := by simp [cText]
  rw [e, splitL_app 46 _ _ p0.1.2, splitL_app 46 _ _ p1.1.2, splitL_no 46 _ p2.1.2]
  rfl
theorem cText_no {v : Clu} (h : cGood v = true) : (44 : UInt8) ∉ cText v ∧ (cText v).length ≤ 11 := by
  have hr := clue_rng h
  have p0 := itoa_plain (n := v.f0) (by omega) (by omega)
  have p1 := itoa_plain (n := v.f1) (by omega) (by omega)
  have p2 := itoa_plain (n := v.f2) (by omega) (by omega)
  refine ⟨?_, ?_⟩
  · have q0 := p0.1.1.2
    have q1 := p1.1.1.2
    have q2 := p2.1.1.2
    simp [cText, q0, q1, q2]
  · simp only [cText, List.length_append, List.length_singleton]
    omega
/-- A word whose pieces are three numbers is their text. -/
theorem word_is {w : List UInt8} {a b c : Int} (h : splitL 46 w = [a, b, c].map Lib.itoa) : w = cText ⟨a, b, c⟩ := by
  have e := splitL_join 46 w
  rw [h] at e
  rw [← e]
  simp [Lib.join_cons, Lib.joinTail, cText]
/-- What the program reads and accepts: the words are the clues' texts, and the reference reads them alike. -/
theorem trips_R {ws : List (List UInt8)} {cs : List Clu} (h : trips ws = some cs) (hv : ∀ v ∈ cs, cGood v = true) : tripsR ws = some cs ∧ ws = cs.map cText := by
  induction ws generalizing cs with
  | nil => simp [trips] at h; subst h; simp [tripsR]
  | cons w ws ih =>
    unfold trips at h
    split at h
    · rename_i hc
      cases hp : trips ws with
      | none => rw [hp] at h; simp at h
      | some r =>
        rw [hp] at h
        simp only [Option.map_some, Option.some.injEq] at h
        subst h
        obtain ⟨ih1, ih2⟩ := ih hp (fun v hv' => hv v (List.mem_cons_of_mem _ hv'))
        obtain ⟨a, b, c, hab⟩ := three_of hc.2
        have hs := numsSays_is hc.1
        rw [hab] at hs
        have h0 := clue_rng (hv _ List.mem_cons_self)
        rw [hab] at h0 ⊢
        simp only [Clu.f0, Clu.f1, Clu.f2, List.getD_cons_zero, List.getD_cons_succ] at h0
        unfold tripsR
        rw [hs, ih1]
        refine ⟨?_, ?_⟩
        · simp only [List.map_cons, List.map_nil, List.length_cons, List.length_nil, List.getD_cons_zero, List.getD_cons_succ, l1r_small (n := a) (by omega) (by omega), l1r_small (n := b) (by omega) (by omega), l1b_small (n := c) (by omega) (by omega), if_true, Option.map_some]
        · rw [List.map_cons, ← ih2, ← word_is (w := w)]
          simpa using hs
    · simp at h
theorem trips_of {cs : List Clu} (hv : ∀ v ∈ cs, cGood v = true) : trips (cs.map cText) = some cs := by
  induction cs with
  | nil => rfl
  | cons v r ih =>
    have hr := clue_rng (hv v List.mem_cons_self)
    have hn := numsSays_of (cText_split (hv v List.mem_cons_self)) (fun n hn => by
      simp only [List.mem_cons, List.not_mem_nil, or_false] at hn
      rcases hn with rfl | rfl | rfl <;> omega)
    rw [List.map_cons, trips, hn, ih (fun u hu => hv u (List.mem_cons_of_mem _ hu))]
    simp
theorem join_len (r : List Clu) (hv : ∀ v ∈ r, cGood v = true) : (Lib.joinTail [44] (r.map cText)).length ≤ 12 * r.length := by
  induction r with
  | nil => simp [Lib.joinTail]
  | cons v r ih =>
    have h1 := ih (fun u hu => hv u (List.mem_cons_of_mem _ hu))
    have h2 := (cText_no (hv v List.mem_cons_self)).2
    have e : Lib.joinTail [44] ((v :: r).map cText) = [44] ++ cText v ++ Lib.joinTail [44] (r.map cText) := by simp [Lib.joinTail]
    rw [e, List.length_append, List.length_append, List.length_singleton, List.length_cons]
    omega
theorem ppSays_eq (l : List UInt8) : ppSays l = ppSaysR l := by
  unfold ppSays ppSaysR
  by_cases h0 : l = []
  · subst h0
    simp
  · rw [if_neg h0, if_neg h0]
    have hR : ∀ cs, tripsR (splitL 44 l) = some cs → cluOk cs = true → puzText cs = l → trips (splitL 44 l) = some cs := by
      intro cs _ hc ht
      have hne : cs ≠ [] := by
        intro e
        subst e
        exact h0 (by rw [← ht]; simp [puzText, Lib.join, List.intercalate])
      have hs : splitL 44 l = cs.map cText := by
        rw [← ht]
        unfold puzText
        refine splitL_of_join 44 _ (by simpa using hne) ?_
        intro x hx
        obtain ⟨v, hv, rfl⟩ := List.mem_map.1 hx
        exact (cText_no (clu_mem hc hv)).1
      rw [hs]
      exact trips_of (fun v hv => clu_mem hc hv)
    have hF : ∀ cs, trips (splitL 44 l) ≠ some cs ∨ cluOk cs ≠ true → tripsR (splitL 44 l) = some cs → cluIfR l (some cs) = ([], false) := by
      intro cs hor hr
      unfold cluIfR
      simp only []
      rw [if_neg]
      rintro ⟨h1, h2⟩
      rcases hor with h | h
      · exact h (hR cs hr h1 h2)
      · exact h h1
    cases hp : trips (splitL 44 l) with
    | some cs =>
      by_cases hc : cluOk cs = true
      · obtain ⟨h1, h2⟩ := trips_R hp (fun v hv => clu_mem hc hv)
        have ht : puzText cs = l := by unfold puzText; rw [← h2]; exact splitL_join 44 l
        have hlen : ¬ 100 < l.length := by
          have hl := clu_len hc
          rw [← ht]
          unfold puzText
          cases cs with
          | nil => simp [Lib.join, List.intercalate]
          | cons v r =>
            rw [List.map_cons, Lib.join_cons, List.length_append]
            have a1 := (cText_no (clu_mem hc (v := v) List.mem_cons_self)).2
            have a2 := join_len r (fun u hu => clu_mem hc (List.mem_cons_of_mem _ hu))
            simp only [List.length_cons] at hl
            omega
        rw [if_neg hlen, h1]
        simp [cluIf, cluIfR, hc, ht]
      · have e : cluIf (some cs) = ([], false) := by simp [cluIf, hc]
        rw [e]
        split
        · rfl
        · cases hr : tripsR (splitL 44 l) with
          | none => rfl
          | some us =>
            rw [hF us (by
              by_cases e : us = cs
              · subst e; exact Or.inr hc
              · exact Or.inl (fun h => e (Option.some.inj (h.symm.trans hp)))) hr]
    | none =>
      split
      · rfl
      · cases hr : tripsR (splitL 44 l) with
        | none => rfl
        | some us => rw [hF us (Or.inl (by rw [hp]; simp)) hr]; rfl
theorem ppSays_len (l : List UInt8) : (ppSays l).1.length ≤ 6 := by
  unfold ppSays cluIf
  split
  · simp
  · split
    · split
      · rename_i h
        exact clu_len h
      · simp
    · simp
theorem bL_list (l : List UInt8) : (bL l).toList = l := ByteArray.toList_mk l
theorem seq_bL (a b : List UInt8) : seq (bL a) (bL b) = decide (a = b) := by
  unfold seq
  rw [bL_list, bL_list]
  by_cases h : a = b <;> simp [h]
/-! ### impl_ParsePuzzle -/
theorem ParsePuzzle_loop {ws : List (List UInt8)} (hl : ws.length ≤ 1900000) (hw : ∀ w ∈ ws, w.length ≤ 1900000) (d : Nat) : ∀ (i : Nat) (acc : List Clu), acc.length = i → i + d = ws.length →
    Ev (fun k => impl_ParsePuzzle.l0 k (ws.map bL) (ws.length : Int) (i : Int) acc) (cluIf ((trips (ws.drop i)).map (acc ++ ·))) := by
  induction d with
  | zero =>
    intro i acc ha hi
    rw [List.drop_eq_nil_of_le (by omega)]
    refine ev_s ?_
    simp only [impl_ParsePuzzle.b0, impl_ParsePuzzle.l0, decide_eq_true_eq, Bool.not_eq_true', Bool.not_eq_false', beq_iff_eq, bne_iff_ne, ne_eq, beq_eq_false_iff_ne, bne_eq_false_iff_eq, decide_eq_false_iff_not, Option.bind_some, dlen, dlenN, if_neg (show ¬ (i : Int) < ws.length by omega), trips, Option.map_some, List.append_nil, cluIf]
    refine Ev.bind (impl_IsPuzzle_eq acc) ?_
    cases hv : cluOk acc with
    | true => simp only [if_true]; exact Ev.now _
    | false => simp only [Bool.false_eq_true, if_false]; exact Ev.now _
  | succ d ih =>
    intro i acc ha hi
    have hil : i < ws.length := by omega
    have hm : ws.getD i [] ∈ ws := by
      rw [List.getD_eq_getElem?_getD, List.getElem?_eq_getElem hil]
      exact List.getElem_mem hil
    rw [drop_cons [] hil]
    refine ev_s ?_
    simp only [impl_ParsePuzzle.b0, impl_ParsePuzzle.l0, decide_eq_true_eq, Bool.not_eq_true', Bool.not_eq_false', beq_iff_eq, bne_iff_ne, ne_eq, beq_eq_false_iff_ne, bne_eq_false_iff_eq, decide_eq_false_iff_not, Option.bind_some, dlen, dlenN, List.length_map, if_pos (show (i : Int) < ws.length by omega), if_pos (show 0 ≤ (i : Int) by omega), rd_bL, show bs [46] = bL [46] from rfl]
    refine Ev.bind (impl_readNumbers_eq (hw _ hm) 46) ?_
    unfold trips
    cases hn : (numsSays 46 (ws.getD i [])).2 with
    | false =>
      simp only [Bool.false_eq_true, false_and, if_false, Option.map_none, cluIf]
      exact Ev.now _
    | true =>
      by_cases h2 : (numsSays 46 (ws.getD i [])).1.length = 3
      · have h := ih (i + 1) (acc ++ [⟨(numsSays 46 (ws.getD i [])).1.getD 0 0, (numsSays 46 (ws.getD i [])).1.getD 1 0, (numsSays 46 (ws.getD i [])).1.getD 2 0⟩]) (by simp [ha]) (by omega)
        have e1 : W ((i : Int) + 1) = ((i + 1 : Nat) : Int) := by rw [w64 (by omega) (by omega)]; omega
        have r0 : rd 0 (numsSays 46 (ws.getD i [])).1 0 = (numsSays 46 (ws.getD i [])).1.getD 0 0 := rfl
        have r1 : rd 0 (numsSays 46 (ws.getD i [])).1 1 = (numsSays 46 (ws.getD i [])).1.getD 1 0 := rfl
        have r2 : rd 0 (numsSays 46 (ws.getD i [])).1 2 = (numsSays 46 (ws.getD i [])).1.getD 2 0 := rfl
        simp only [h2, and_self, if_true, Bool.true_eq_false, if_false, show ((3 : Nat) : Int) = 3 from rfl, not_true_eq_false, if_pos (show (0 : Int) < 3 by omega), if_pos (show (1 : Int) < 3 by omega), if_pos (show (2 : Int) < 3 by omega), if_pos (show acc.length + 1 ≤ 5864062014805 by omega), e1, r0, r1, r2]
        cases hr : trips (ws.drop (i + 1)) with
        | none => rw [hr] at h; simpa using h
        | some r => rw [hr] at h; simpa using h
      · simp only [Bool.true_eq_false, if_false, if_true, if_pos (show ¬ ((((numsSays 46 (ws.getD i [])).1.length : Nat) : Int) = 3) by omega), h2, and_false, if_false, Option.map_none, cluIf]
        exact Ev.now _
theorem impl_ParsePuzzle_eq {l : List UInt8} (h : l.length ≤ 1800000) : Ev (fun k => impl_ParsePuzzle.f k (bL l)) (ppSays l) := by
  unfold ppSays
  simp only [impl_ParsePuzzle.b, impl_ParsePuzzle.f, decide_eq_true_eq, Bool.not_eq_true', Bool.not_eq_false', beq_iff_eq, bne_iff_ne, ne_eq, beq_eq_false_iff_ne, bne_eq_false_iff_eq, decide_eq_false_iff_not, Option.bind_some, dlen, dlenN, show bs [] = bL [] from rfl, show bs [44] = bL [44] from rfl, seq_bL, strings_Split_eq (show l.length ≤ 2000000 by omega), Option.bind_some, List.length_map]
  by_cases h0 : l = []
  · simp only [if_pos h0]
    exact Ev.now _
  · rw [if_neg h0]
    simp only [if_neg h0]
    have := splitL_length 44 l
    have h1 := ParsePuzzle_loop (ws := splitL 44 l) (by omega) (fun w hw => by have := splitL_mem 44 l w hw; omega) (splitL 44 l).length 0 [] rfl (by omega)
    cases hp : trips (splitL 44 l) with
    | none => rw [List.drop_zero, hp] at h1; exact h1
    | some r => rw [List.drop_zero, hp] at h1; simpa using h1
/-! ### spec_l1Split -/
/-- The pieces, where a part of the first was seen already. -/
def splitP (p : List UInt8) (c : UInt8) (r : List UInt8) : List (List UInt8) := match splitL c r with | [] => [p] | w :: ws => (p ++ w) :: ws
theorem splitP_nil (c : UInt8) (r : List UInt8) : splitP [] c r = splitL c r := by
  unfold splitP
  cases h : splitL c r with
  | nil => exact absurd h (splitL_ne c r)
  | cons w ws => rfl
theorem splitP_hit (p : List UInt8) (c : UInt8) (r : List UInt8) : splitP p c (c :: r) = p :: splitL c r := by
  unfold splitP
  simp [splitL]
theorem splitP_miss (p : List UInt8) {b c : UInt8} (h : ¬ b = c) (r : List UInt8) : splitP p c (b :: r) = splitP (p ++ [b]) c r := by
  unfold splitP
  rw [splitL, if_neg h]
  cases h : splitL c r with
  | nil => exact absurd h (splitL_ne c r)
  | cons w ws => simp
theorem l1Split_loop {l : List UInt8} (hl : l.length ≤ 2000000) (c : UInt8) (d : Nat) : ∀ (i f : Nat) (out : List ByteArray), out.length ≤ i → f ≤ i → i + d = l.length →
    Ev (fun k => spec_l1Split.l0 k (bL l) (c.toNat : Int) (f : Int) (i : Int) out) (out ++ (splitP ((l.take i).drop f) c (l.drop i)).map bL) := by
  induction d with
  | zero =>
    intro i f out ho hf hi
    rw [List.drop_eq_nil_of_le (show l.length ≤ i by omega), List.take_of_length_le (show l.length ≤ i by omega)]
    refine ev_s ?_
    simp only [spec_l1Split.b0, spec_l1Split.l0, decide_eq_true_eq, Bool.not_eq_true', Bool.not_eq_false', beq_iff_eq, bne_iff_ne, ne_eq, beq_eq_false_iff_ne, bne_eq_false_iff_eq, decide_eq_false_iff_not, Option.bind_some, dlen, dlenN, slen, bL_size, if_neg (show ¬ (i : Int) < l.length by omega), if_pos (show 0 ≤ (f : Int) by omega), if_pos (show (f : Int) ≤ l.length by omega), if_pos (show out.length + 1 ≤ 8796093022208 by omega), castsub, bL_extract, List.take_length]
    have e : splitP (l.drop f) c [] = [l.drop f] := by simp [splitP, splitL]
    rw [e]
    exact Ev.now _
  | succ d ih =>
    intro i f out ho hf hi
    have hil : i < l.length := by omega
    rw [drop_cons 0 hil]
    have ht := take_snoc' (0 : UInt8) hil
    refine ev_s ?_
    simp (disch := omega) only [spec_l1Split.b0, spec_l1Split.l0, decide_eq_true_eq, Bool.not_eq_true', Bool.not_eq_false', beq_iff_eq, bne_iff_ne, ne_eq, beq_eq_false_iff_ne, bne_eq_false_iff_eq, decide_eq_false_iff_not, Option.bind_some, dlen, dlenN, slen, bL_size, if_pos (show (i : Int) < l.length by omega), if_pos (show 0 ≤ (i : Int) by omega), if_pos (show 0 ≤ (f : Int) by omega), if_pos (show (f : Int) ≤ (i : Int) by omega), if_pos (show (i : Int) ≤ l.length by omega), if_pos (show out.length + 1 ≤ 8796093022208 by omega), castsub, bL_extract, bat_bL hil, w64, cs1]
    by_cases hb : l.getD i 0 = c
    · rw [hb, splitP_hit]
      simp only [if_true]
      have h := ih (i + 1) (i + 1) (out ++ [bL ((l.take i).drop f)]) (by simp; omega) (Nat.le_refl _) (by omega)
      rw [List.drop_eq_nil_of_le (show (l.take (i + 1)).length ≤ i + 1 by simp; omega), splitP_nil] at h
      simpa using h
    · have hne : ¬ ((l.getD i 0).toNat : Int) = (c.toNat : Int) := fun e => hb (UInt8.toNat_inj.1 (by omega))
      rw [splitP_miss _ hb]
      simp only [if_neg hne]
      have h := ih (i + 1) f out (by omega) (by omega) (by omega)
      rw [ht, List.drop_append_of_le_length (by simp; omega)] at h
      exact h
theorem spec_l1Split_eq {l : List UInt8} (hl : l.length ≤ 2000000) (c : UInt8) : Ev (fun k => spec_l1Split.f k (bL l) (c.toNat : Int)) ((splitL c l).map bL) := by
  have h := l1Split_loop hl c l.length 0 0 [] (by simp) (Nat.le_refl _) (by omega)
  unfold spec_l1Split.f spec_l1Split.b
  simpa [splitP_nil] using h
/-! ### spec_l1Read -/
theorem l1Read_loop {l : List UInt8} (hl : l.length ≤ 6) (d : Nat) : ∀ (i : Nat) (a : Nat), a < 10 ^ i → i + d = l.length →
    Ev (fun k => spec_l1Read.l0 k (bL l) (a : Int) (i : Int)) (digs (a : Int) (l.drop i)) := by
  induction d with
  | zero =>
    intro i a ha hi
    rw [List.drop_eq_nil_of_le (by omega)]
    refine ev_s ?_
    simp only [spec_l1Read.b0, spec_l1Read.l0, decide_eq_true_eq, Bool.not_eq_true', Bool.not_eq_false', beq_iff_eq, bne_iff_ne, ne_eq, beq_eq_false_iff_ne, bne_eq_false_iff_eq, decide_eq_false_iff_not, Option.bind_some, dlen, dlenN, slen, bL_size, if_neg (show ¬ (i : Int) < l.length by omega), digs]
    exact Ev.now _
  | succ d ih =>
    intro i a ha hi
    have hil : i < l.length := by omega
    have hp : 10 ^ i ≤ 10 ^ 6 := Nat.pow_le_pow_right (by omega) (by omega)
    have hb : (l.getD i 0).toNat < 256 := (l.getD i 0).toNat_lt
    rw [drop_cons 0 hil]
    unfold digs
    refine ev_s ?_
    simp only [spec_l1Read.b0, spec_l1Read.l0, decide_eq_true_eq, Bool.not_eq_true', Bool.not_eq_false', beq_iff_eq, bne_iff_ne, ne_eq, beq_eq_false_iff_ne, bne_eq_false_iff_eq, decide_eq_false_iff_not, Option.bind_some, dlen, dlenN, slen, bL_size, if_pos (show (i : Int) < l.length by omega), if_pos (show 0 ≤ (i : Int) by omega), bat_bL hil]
    generalize hg : (l.getD i 0).toNat = b at *
    by_cases h1 : b < 48
    · rw [if_pos (show b < 48 ∨ 57 < b from Or.inl h1)]
      simp only [if_pos (show (b : Int) < 48 by omega)]
      exact Ev.now _
    · simp only [if_neg (show ¬ (b : Int) < 48 by omega)]
      by_cases h2 : 57 < b
      · rw [if_pos (show b < 48 ∨ 57 < b from Or.inr h2)]
        simp only [if_pos (show (b : Int) > 57 by omega)]
        exact Ev.now _
      · rw [if_neg (show ¬ (b < 48 ∨ 57 < b) by omega)]
        simp only [if_neg (show ¬ (b : Int) > 57 by omega)]
        have h := ih (i + 1) (10 * a + (b - 48)) (by rw [Nat.pow_succ]; omega) (by omega)
        have e1 : W ((W (10 * (a : Int))) + (W (IntKind.wrap .u8 ((b : Int) - 48)))) = ((10 * a + (b - 48) : Nat) : Int) := by
          rw [show IntKind.wrap .u8 ((b : Int) - 48) = (b : Int) - 48 by simp [IntKind.wrap, IntKind.bits, IntKind.signed]; omega, w64 (x := 10 * (a : Int)) (by omega) (by omega), w64 (x := (b : Int) - 48) (by omega) (by omega), w64 (by omega) (by omega)]
          omega
        have e2 : W ((i : Int) + 1) = ((i + 1 : Nat) : Int) := by rw [w64 (by omega) (by omega)]; omega
        have e3 : 10 * (a : Int) + ((b : Int) - 48) = ((10 * a + (b - 48) : Nat) : Int) := by omega
        rw [e3]
        simp only [e1, e2]
        exact h
theorem spec_l1Read_eq {l : List UInt8} (hl : l.length ≤ 2000000) : Ev (fun k => spec_l1Read.f k (bL l)) (l1r l) := by
  unfold l1r
  simp only [spec_l1Read.b, spec_l1Read.f, decide_eq_true_eq, Bool.not_eq_true', Bool.not_eq_false', beq_iff_eq, bne_iff_ne, ne_eq, beq_eq_false_iff_ne, bne_eq_false_iff_eq, decide_eq_false_iff_not, Option.bind_some, dlen, dlenN, slen, spec_l1In_eq, bL_size]
  by_cases h : 1 ≤ l.length ∧ l.length ≤ 6
  · have hb := bat_bL (show 0 < l.length by omega)
    have hg := l1Read_loop h.2 l.length 0 0 (by simp) (by omega)
    rw [List.drop_zero] at hg
    have hg' : Ev (fun k => spec_l1Read.l0 k (bL l) 0 0) (digs 0 l) := hg
    simp only [if_neg (show ¬ ¬ ((1 : Int) ≤ l.length ∧ (l.length : Int) ≤ 6) by omega), if_pos (show (0 : Int) < l.length by omega), show bat (bL l) 0 = ((l.getD 0 0).toNat : Int) from hb]
    by_cases h0 : l.getD 0 0 = 48
    · have e : ((l.getD 0 0).toNat : Int) = 48 := by rw [h0]; rfl
      simp only [if_pos e]
      by_cases h1 : 1 < l.length
      · rw [if_pos (show l.length < 1 ∨ 6 < l.length ∨ (l.getD 0 0 = 48 ∧ 1 < l.length) from Or.inr (Or.inr ⟨h0, h1⟩))]
        simp only [if_pos (show (l.length : Int) > 1 by omega)]
        exact Ev.now _
      · rw [if_neg (show ¬ (l.length < 1 ∨ 6 < l.length ∨ (l.getD 0 0 = 48 ∧ 1 < l.length)) by omega)]
        simp only [if_neg (show ¬ (l.length : Int) > 1 by omega)]
        exact hg'
    · have e : ¬ ((l.getD 0 0).toNat : Int) = 48 := fun e => h0 (UInt8.toNat_inj.1 (by have : (48 : UInt8).toNat = 48 := rfl; omega))
      rw [if_neg (show ¬ (l.length < 1 ∨ 6 < l.length ∨ (l.getD 0 0 = 48 ∧ 1 < l.length)) by rintro (h1 | h1 | ⟨h1, _⟩) <;> first | omega | exact h0 h1)]
      simp only [if_neg e]
      exact hg'
  · simp only [if_pos (show ¬ ((1 : Int) ≤ l.length ∧ (l.length : Int) ≤ 6) by omega)]
    rw [if_pos (show l.length < 1 ∨ 6 < l.length ∨ (l.getD 0 0 = 48 ∧ 1 < l.length) by omega)]
    exact Ev.now _
/-! ### spec_pzParse -/
theorem digs_lt : ∀ (l : List UInt8) (acc P : Int), 0 ≤ acc → acc < P → digs acc l < P * 10 ^ l.length
  | [], acc, P, _, h => by simpa [digs] using h
  | b :: r, acc, P, h0, h => by
    have hp : (0 : Int) < 10 ^ (b :: r).length := Int.pow_pos (by omega)
    unfold digs
    split
    · have : 0 < P * 10 ^ (b :: r).length := Int.mul_pos (by omega) hp
      omega
    · have := digs_lt r (10 * acc + ((b.toNat : Int) - 48)) (10 * P) (by omega) (by omega)
      rw [List.length_cons, Int.pow_succ, show P * (10 ^ r.length * 10) = 10 * P * 10 ^ r.length by rw [Int.mul_comm (10 ^ r.length) 10, ← Int.mul_assoc, Int.mul_comm P 10]]
      exact this
theorem l1r_rng (l : List UInt8) : -1 ≤ l1r l ∧ l1r l ≤ 1000000 := by
  unfold l1r
  split
  · omega
  · rename_i hc
    have h1 := digs_ge l 0 (Int.le_refl _)
    have h2 := digs_lt l 0 1 (Int.le_refl _) (by omega)
    have h3 : l.length ≤ 6 := by omega
    have h4 : (10 : Int) ^ l.length ≤ 1000000 := by
      have : l.length = 0 ∨ l.length = 1 ∨ l.length = 2 ∨ l.length = 3 ∨ l.length = 4 ∨ l.length = 5 ∨ l.length = 6 := by omega
      rcases this with h | h | h | h | h | h | h <;> rw [h] <;> decide
    omega
def pzR (l : List UInt8) (o : Option (List Clu)) : List Clu × Bool := match o with | some cs => (cs, cluOk cs && decide (puzText cs = l)) | none => ([], false)
theorem pzParse_loop {l : List UInt8} {ws : List (List UInt8)} (hl : ws.length ≤ 1900000) (hw : ∀ w ∈ ws, w.length ≤ 1900000) (d : Nat) : ∀ (i : Nat) (acc : List Clu), acc.length = i → i + d = ws.length →
    Ev (fun k => spec_pzParse.l0 k (bL l) (ws.map bL) (ws.length : Int) (i : Int) acc) (pzR l ((tripsR (ws.drop i)).map (acc ++ ·))) := by
  induction d with
  | zero =>
    intro i acc ha hi
    rw [List.drop_eq_nil_of_le (by omega)]
    refine ev_s ?_
    simp only [spec_pzParse.b0, spec_pzParse.l0, decide_eq_true_eq, Bool.not_eq_true', Bool.not_eq_false', beq_iff_eq, bne_iff_ne, ne_eq, beq_eq_false_iff_ne, bne_eq_false_iff_eq, decide_eq_false_iff_not, Option.bind_some, dlen, dlenN, if_neg (show ¬ (i : Int) < ws.length by omega), tripsR, Option.map_some, List.append_nil, pzR]
    refine Ev.bind (spec_pzGood_eq acc) ?_
    cases hv : cluOk acc with
    | true =>
      simp only [if_true, Bool.true_and]
      refine Ev.bind (spec_pzText_eq hv) ?_
      rw [← seq_bL]
      exact Ev.now _
    | false => simp only [Bool.false_eq_true, if_false, Bool.false_and]; exact Ev.now _
  | succ d ih =>
    intro i acc ha hi
    have hil : i < ws.length := by omega
    have hm : ws.getD i [] ∈ ws := by
      rw [List.getD_eq_getElem?_getD, List.getElem?_eq_getElem hil]
      exact List.getElem_mem hil
    have hwl := hw _ hm
    rw [drop_cons [] hil]
    refine ev_s ?_
    simp only [spec_pzParse.b0, spec_pzParse.l0, decide_eq_true_eq, Bool.not_eq_true', Bool.not_eq_false', beq_iff_eq, bne_iff_ne, ne_eq, beq_eq_false_iff_ne, bne_eq_false_iff_eq, decide_eq_false_iff_not, Option.bind_some, dlen, dlenN, List.length_map, if_pos (show (i : Int) < ws.length by omega), if_pos (show 0 ≤ (i : Int) by omega), rd_bL]
    refine Ev.bind (spec_l1Split_eq (l := ws.getD i []) (by omega) 46) ?_
    unfold tripsR
    generalize ws.getD i [] = w at hwl
    have r0 : rd (bs []) ((splitL 46 w).map bL) 0 = bL ((splitL 46 w).getD 0 []) := rd_bL _ 0
    have r1 : rd (bs []) ((splitL 46 w).map bL) 1 = bL ((splitL 46 w).getD 1 []) := rd_bL _ 1
    have r2 : rd (bs []) ((splitL 46 w).map bL) 2 = bL ((splitL 46 w).getD 2 []) := rd_bL _ 2
    have hsub : ∀ j, ((splitL 46 w).getD j []).length ≤ 2000000 := by
      intro j
      rw [List.getD_eq_getElem?_getD]
      cases hj : (splitL 46 w)[j]? with
      | none => simp
      | some x =>
        have := splitL_mem 46 _ x (List.mem_of_getElem? hj)
        simp
        omega
    by_cases h2 : (splitL 46 w).length = 3
    · have h := ih (i + 1) (acc ++ [⟨l1r ((splitL 46 w).getD 0 []), l1r ((splitL 46 w).getD 1 []), l1b ((splitL 46 w).getD 2 [])⟩]) (by simp [ha]) (by omega)
      have e1 : W ((i : Int) + 1) = ((i + 1 : Nat) : Int) := by rw [w64 (by omega) (by omega)]; omega
      have hr : Ev (fun k => spec_pzParse.l0 k (bL l) (ws.map bL) (ws.length : Int) ((i + 1 : Nat) : Int) (acc ++ [⟨l1r ((splitL 46 w).getD 0 []), l1r ((splitL 46 w).getD 1 []), l1b ((splitL 46 w).getD 2 [])⟩]))
          (pzR l (((if (3 : Nat) = 3 then (tripsR (ws.drop (i + 1))).map (⟨l1r ((splitL 46 w).getD 0 []), l1r ((splitL 46 w).getD 1 []), l1b ((splitL 46 w).getD 2 [])⟩ :: ·) else none)).map (acc ++ ·))) := by
        cases hr : tripsR (ws.drop (i + 1)) with
        | none => rw [hr] at h; simpa using h
        | some r => rw [hr] at h; simpa using h
      simp only [List.length_map, h2, show ((3 : Nat) : Int) = 3 from rfl, not_true_eq_false, if_false, if_pos (show (0 : Int) < 3 by omega), if_pos (show (1 : Int) < 3 by omega), if_pos (show (2 : Int) < 3 by omega), r0, r1, r2, slen, bL_size]
      refine Ev.bind (spec_l1Read_eq (hsub 2)) ?_
      by_cases hc1 : 1 < ((splitL 46 w).getD 2 []).length
      · have hbt : bat (bL ((splitL 46 w).getD 2 [])) 0 = ((((splitL 46 w).getD 2 []).getD 0 0).toNat : Int) := bat_bL (show 0 < ((splitL 46 w).getD 2 []).length by omega)
        simp only [if_pos (show ((((splitL 46 w).getD 2 []).length : Nat) : Int) > 1 by omega), if_pos (show (0 : Int) < ((((splitL 46 w).getD 2 []).length : Nat) : Int) by omega), hbt]
        by_cases hb : ((splitL 46 w).getD 2 []).getD 0 0 = 45
        · have e45 : ((((splitL 46 w).getD 2 []).getD 0 0).toNat : Int) = 45 := by rw [hb]; rfl
          have eb : l1b ((splitL 46 w).getD 2 []) = -(l1r (((splitL 46 w).getD 2 []).drop 1)) := by unfold l1b; rw [if_pos ⟨hc1, hb⟩]
          have hrg := l1r_rng (((splitL 46 w).getD 2 []).drop 1)
          have ew : W (0 - (l1r (((splitL 46 w).getD 2 []).drop 1))) = l1b ((splitL 46 w).getD 2 []) := by rw [w64 (by omega) (by omega), eb]; omega
          simp only [if_pos e45, if_pos (show (1 : Int) ≤ ((((splitL 46 w).getD 2 []).length : Nat) : Int) by omega), bL_extract, castsub, List.take_length]
          refine Ev.bind (spec_l1Read_eq (by have := hsub 2; rw [List.length_drop]; omega)) (Ev.bind (spec_l1Read_eq (hsub 0)) (Ev.bind (spec_l1Read_eq (hsub 1)) ?_))
          simp only [if_pos (show acc.length + 1 ≤ 5864062014805 by omega), e1, ew]
          simpa using hr
        · have e45 : ¬ ((((splitL 46 w).getD 2 []).getD 0 0).toNat : Int) = 45 := fun e => hb (UInt8.toNat_inj.1 (by have : (45 : UInt8).toNat = 45 := rfl; omega))
          have eb : l1b ((splitL 46 w).getD 2 []) = l1r ((splitL 46 w).getD 2 []) := by unfold l1b; rw [if_neg (fun h => hb h.2)]
          rw [eb] at hr ⊢
          simp only [if_neg e45]
          refine Ev.bind (spec_l1Read_eq (hsub 0)) (Ev.bind (spec_l1Read_eq (hsub 1)) ?_)
          simp only [if_pos (show acc.length + 1 ≤ 5864062014805 by omega), e1]
          simpa using hr
      · have eb : l1b ((splitL 46 w).getD 2 []) = l1r ((splitL 46 w).getD 2 []) := by unfold l1b; rw [if_neg (fun h => hc1 h.1)]
        rw [eb] at hr ⊢
        simp only [if_neg (show ¬ ((((splitL 46 w).getD 2 []).length : Nat) : Int) > 1 by omega)]
        refine Ev.bind (spec_l1Read_eq (hsub 0)) (Ev.bind (spec_l1Read_eq (hsub 1)) ?_)
        simp only [if_pos (show acc.length + 1 ≤ 5864062014805 by omega), e1]
        simpa using hr
    · simp only [List.length_map, if_pos (show ¬ ((((splitL 46 w).length : Nat) : Int) = 3) by omega), h2, if_false, Option.map_none, pzR]
      exact Ev.now _
theorem pzR_says (l : List UInt8) (o : Option (List Clu)) : (if (pzR l o).2 = true then ((pzR l o).1, true) else (([] : List Clu), false)) = cluIfR l o := by
  cases o with
  | none => rfl
  | some cs =>
    simp only [pzR, cluIfR, Bool.and_eq_true, decide_eq_true_eq]
/-! ### spec_ParsePuzzle -/
theorem spec_ParsePuzzle_eq {l : List UInt8} (h : l.length ≤ 1800000) : Ev (fun k => spec_ParsePuzzle.f k (bL l)) (ppSaysR l) := by
  unfold ppSaysR
  have hend : ∀ {g : Nat → Option (List Clu × Bool)} {r : List Clu × Bool}, Ev g r → Ev (fun k => (g k).bind fun t0 => (if (!t0.2) = true then some (([] : List Clu), false) else some (t0.1, true))) (if r.2 = true then (r.1, true) else ([], false)) := by
    intro g r hg
    refine Ev.bind hg ?_
    cases r.2 with
    | true => exact Ev.now _
    | false => exact Ev.now _
  simp only [spec_ParsePuzzle.b, spec_ParsePuzzle.f]
  by_cases hs : 100 < l.length
  · rw [if_pos hs]
    refine hend (r := ([], false)) ?_
    simp only [spec_pzParse.b, spec_pzParse.f, decide_eq_true_eq, Bool.not_eq_true', Bool.not_eq_false', beq_iff_eq, bne_iff_ne, ne_eq, beq_eq_false_iff_ne, bne_eq_false_iff_eq, decide_eq_false_iff_not, Option.bind_some, dlen, dlenN, slen, bL_size, if_pos (show (l.length : Int) > 100 by omega)]
    exact Ev.now _
  · rw [if_neg hs]
    by_cases h0 : l = []
    · rw [if_pos h0]
      subst h0
      refine hend (r := ([], true)) ?_
      simp only [spec_pzParse.b, spec_pzParse.f, decide_eq_true_eq, Bool.not_eq_true', Bool.not_eq_false', beq_iff_eq, bne_iff_ne, ne_eq, beq_eq_false_iff_ne, bne_eq_false_iff_eq, decide_eq_false_iff_not, Option.bind_some, dlen, dlenN, slen, bL_size, if_neg (show ¬ ((([] : List UInt8).length : Nat) : Int) > 100 by simp), if_neg (show ¬ ((([] : List UInt8).length : Nat) : Int) > 0 by simp)]
      refine Ev.bind (spec_pzGood_eq []) ?_
      have hc : cluOk ([] : List Clu) = true := by decide
      simp only [hc, if_true]
      refine Ev.bind (spec_pzText_eq hc) ?_
      refine ev_now ?_
      rw [seq_bL]
      simp [puzText, Lib.join, List.intercalate]
    · rw [if_neg h0, ← pzR_says]
      refine hend ?_
      have hpos : 0 < l.length := List.length_pos_iff.2 h0
      simp only [spec_pzParse.b, spec_pzParse.f, decide_eq_true_eq, Bool.not_eq_true', Bool.not_eq_false', beq_iff_eq, bne_iff_ne, ne_eq, beq_eq_false_iff_ne, bne_eq_false_iff_eq, decide_eq_false_iff_not, Option.bind_some, dlen, dlenN, slen, bL_size, if_neg (show ¬ (l.length : Int) > 100 by omega), if_pos (show (l.length : Int) > 0 by omega)]
      refine Ev.bind (spec_l1Split_eq (l := l) (by omega) 44) ?_
      have := splitL_length 44 l
      have h1 := pzParse_loop (l := l) (ws := splitL 44 l) (by omega) (fun w hw => by have := splitL_mem 44 l w hw; omega) (splitL 44 l).length 0 [] rfl (by omega)
      simp only [List.length_map]
      cases hp : tripsR (splitL 44 l) with
      | none => rw [List.drop_zero, hp] at h1; exact h1
      | some r => rw [List.drop_zero, hp] at h1; simpa using h1
/-! ### laws_qClues -/
theorem laws_qClues_loop {l : List Clu} (hl : l.length ≤ 9223372036854775806) (d : Nat) : ∀ i : Nat, i + d = l.length → Ev (fun k => laws_qClues.l0 k l l (l.length : Int) (i : Int)) true := by
  induction d with
  | zero =>
    intro i hi
    refine ev_s ?_
    simp only [laws_qClues.b0, laws_qClues.l0, decide_eq_true_eq, Bool.not_eq_true', Bool.not_eq_false', beq_iff_eq, bne_iff_ne, ne_eq, beq_eq_false_iff_ne, bne_eq_false_iff_eq, decide_eq_false_iff_not, Option.bind_some, dlen, dlenN, if_neg (show ¬ (i : Int) < l.length by omega)]
    exact Ev.now _
  | succ d ih =>
    intro i hi
    refine ev_s ?_
    simp (disch := omega) only [laws_qClues.b0, laws_qClues.l0, decide_eq_true_eq, Bool.not_eq_true', Bool.not_eq_false', beq_iff_eq, bne_iff_ne, ne_eq, beq_eq_false_iff_ne, bne_eq_false_iff_eq, decide_eq_false_iff_not, Option.bind_some, dlen, dlenN, if_pos (show (i : Int) < l.length by omega), if_pos (show 0 ≤ (i : Int) by omega), beq_self_eq_true, Bool.and_self, Bool.true_eq_false, if_false, w64, cs1]
    exact ih (i + 1) (by omega)
theorem laws_qClues_same {l : List Clu} (hl : l.length ≤ 9223372036854775806) : Ev (fun k => laws_qClues.f k l l) true := by
  simp only [laws_qClues.b, laws_qClues.f, decide_eq_true_eq, Bool.not_eq_true', Bool.not_eq_false', beq_iff_eq, bne_iff_ne, ne_eq, beq_eq_false_iff_ne, bne_eq_false_iff_eq, decide_eq_false_iff_not, Option.bind_some, dlen, dlenN, not_true_eq_false, if_false]
  exact laws_qClues_loop hl l.length 0 (by omega)
/-! ### impl_IsSnail -/
theorem impl_IsSnail_eq (up dn : Int) : impl_IsSnail.f up dn = some (decide ((1 ≤ up ∧ up ≤ 1000) ∧ 0 ≤ dn ∧ dn ≤ 1000)) := by
  simp only [impl_IsSnail.b, impl_IsSnail.f, impl_within_eq, Option.bind_some]
  by_cases h : 1 ≤ up ∧ up ≤ 1000 <;> simp [h]
/-! ### impl_isHidden -/
theorem impl_isHidden_eq (a b : Int) : impl_isHidden.f a b = some (decide (hidOk a b)) := by
  simp only [impl_isHidden.b, impl_isHidden.f, impl_within_eq, decide_eq_true_eq, Bool.not_eq_true', Bool.not_eq_false', beq_iff_eq, bne_iff_ne, ne_eq, beq_eq_false_iff_ne, bne_eq_false_iff_eq, decide_eq_false_iff_not, Option.bind_some, dlen, dlenN]
  by_cases h : 1 ≤ a ∧ a ≤ 12
  · rw [if_pos h]
    exact congrArg some (dec_e (by unfold hidOk; omega))
  · rw [if_neg h, dec_f (by unfold hidOk; omega)]
/-! ### impl_DoesFit -/
theorem impl_DoesFit_eq (kind a b up dn : Int) : impl_DoesFit.f kind a b up dn = some (fitSays kind a b up dn) := by
  simp only [impl_DoesFit.b, impl_DoesFit.f, impl_IsClue_eq, impl_isHidden_eq, decide_eq_true_eq, Bool.not_eq_true', Bool.not_eq_false', beq_iff_eq, bne_iff_ne, ne_eq, beq_eq_false_iff_ne, bne_eq_false_iff_eq, decide_eq_false_iff_not, Option.bind_some, dlen, dlenN, fitSays]
  by_cases hc : clueOk kind a b = true
  · by_cases h : hidOk up dn
    · simp only [hc, h, decide_true, Bool.true_eq_false, if_false, not_true_eq_false, impl_doesFit_eq h (aOk_of hc), Option.bind_some, and_self, if_true]
    · simp only [hc, h, Bool.true_eq_false, if_false, not_false_eq_true, if_true, Option.bind_some, false_and]
  · rw [Bool.not_eq_true] at hc
    simp only [hc, if_true, Bool.false_eq_true, and_false, if_false]
/-! ### impl_DropClue -/
theorem impl_DropClue_eq (l : List Clu) (i : Int) : Ev (fun k => impl_DropClue.f k l i) (dropSays l i) := by
  unfold impl_DropClue.f impl_DropClue.b dropSays
  refine Ev.bind (impl_IsPuzzle_eq l) ?_
  by_cases h : cluOk l = true
  · have h6 := (aAll_of h).1
    simp (disch := omega) only [h, Bool.not_true, Bool.false_eq_true, if_false, dlen, w64, impl_within_eq, Option.bind_some, true_and, Bool.not_eq_true', decide_eq_false_iff_not]
    by_cases hi : 0 ≤ i ∧ i < (l.length : Int)
    · obtain ⟨n, rfl⟩ : ∃ n : Nat, i = (n : Int) := ⟨i.toNat, by omega⟩
      simp only [if_neg (show ¬ ¬ (0 ≤ (n : Int) ∧ (n : Int) ≤ (l.length : Int) - 1) by omega), impl_withoutClue_eq (show l.length ≤ 1000 by omega) (show n < l.length by omega), Option.bind_some, if_pos hi]
      exact Ev.now _
    · simp only [if_pos (show ¬ (0 ≤ i ∧ i ≤ (l.length : Int) - 1) by omega), if_neg hi]
      exact Ev.now _
  · rw [Bool.not_eq_true] at h
    simp only [h, Bool.not_false, if_true, Bool.false_eq_true, false_and, if_false]
    exact Ev.now _
/-! ### laws_qHas -/
theorem laws_qHas_loop {l : List Int} (hl : l.length ≤ 1000000) (x : Int) (d : Nat) : ∀ i : Nat, i + d = l.length → Ev (fun k => laws_qHas.l0 k x l (l.length : Int) (i : Int)) ((l.drop i).any fun y => y == x) := by
  induction d with
  | zero =>
    intro i hi
    rw [List.drop_eq_nil_of_le (by omega)]
    refine ev_s ?_
    simp only [laws_qHas.b0, laws_qHas.l0, decide_eq_true_eq, Bool.not_eq_true', Bool.not_eq_false', beq_iff_eq, bne_iff_ne, ne_eq, beq_eq_false_iff_ne, bne_eq_false_iff_eq, decide_eq_false_iff_not, Option.bind_some, dlen, dlenN, if_neg (show ¬ (i : Int) < l.length by omega)]
    exact Ev.now _
  | succ d ih =>
    intro i hi
    rw [drop_cons (0 : Int) (show i < l.length by omega), List.any_cons]
    refine ev_s ?_
    simp (disch := omega) only [laws_qHas.b0, laws_qHas.l0, decide_eq_true_eq, Bool.not_eq_true', Bool.not_eq_false', beq_iff_eq, bne_iff_ne, ne_eq, beq_eq_false_iff_ne, bne_eq_false_iff_eq, decide_eq_false_iff_not, Option.bind_some, dlen, dlenN, if_pos (show (i : Int) < l.length by omega), if_pos (show 0 ≤ (i : Int) by omega), rd_nat, w64, cs1]
    by_cases h : l.getD i 0 = x
    · simp only [h, if_true, beq_self_eq_true, Bool.true_or]
      exact Ev.now _
    · simp only [h, if_false]
      rw [show (l.getD i 0 == x) = false by simpa using h, Bool.false_or]
      exact ih (i + 1) (by omega)
theorem laws_qHas_eq {l : List Int} (hl : l.length ≤ 1000000) (x : Int) : Ev (fun k => laws_qHas.f k l x) (l.any fun y => y == x) :=
  laws_qHas_loop hl x l.length 0 (by omega)
/-! ### base_solsub -/
theorem fitAll_sub {l l' : List Clu} (h : ∀ v ∈ l', v ∈ l) {up dn : Int} (hf : fitAll l up dn = true) : fitAll l' up dn = true := by
  unfold fitAll at *
  rw [List.all_eq_true] at *
  exact fun v hv => hf v (h v hv)
theorem solD_sub {l l' : List Clu} (h : ∀ v ∈ l', v ∈ l) (up : Int) (d : Nat) : ∀ j, (solD l up d j).Sublist (solD l' up d j) := by
  induction d with
  | zero => intro j; exact List.Sublist.refl _
  | succ d ih =>
    intro j
    simp only [solD]
    refine List.Sublist.append ?_ (ih (j + 1))
    by_cases hf : fitAll l up j = true
    · rw [if_pos hf, if_pos (fitAll_sub h hf)]
      exact List.Sublist.refl _
    · rw [if_neg hf]
      exact List.nil_sublist _
theorem solU_sub {l l' : List Clu} (h : ∀ v ∈ l', v ∈ l) (d : Nat) : ∀ i, (solU l d i).Sublist (solU l' d i) := by
  induction d with
  | zero => intro i; exact List.Sublist.refl _
  | succ d ih =>
    intro i
    simp only [solU]
    exact List.Sublist.append (solD_sub h _ _ _) (ih (i + 1))
theorem sols_sub {l l' : List Clu} (h : ∀ v ∈ l', v ∈ l) : (sols l).Sublist (sols l') := solU_sub h 12 1
theorem sols_same {l l' : List Clu} (h : ∀ v ∈ l', v ∈ l) (he : (sols l).length = (sols l').length) : sols l = sols l' := (sols_sub h).eq_of_length he
/-! ### base_ev2 -/
theorem Ev.next {α : Type} {g : Nat → Option α} {r : α} (h : Ev g r) : Ev (fun k => g (k + 1)) r := by
  obtain ⟨K, h⟩ := h
  exact ⟨K, fun k hk => h (k + 1) (by omega)⟩
theorem ev_of {α : Type} {x : Option α} {r : α} (h : x = some r) : Ev (fun _ => x) r := ⟨0, fun _ _ => h⟩
theorem cluOk_sub {l l' : List Clu} (h : cluOk l = true) (hs : l'.Sublist l) : cluOk l' = true := by
  unfold cluOk at *
  rw [Bool.and_eq_true, List.all_eq_true, decide_eq_true_eq] at *
  exact ⟨Nat.le_trans hs.length_le h.1, fun v hv => h.2 v (hs.subset hv)⟩
theorem fit_told {kind a up dn : Int} (h : hidOk up dn) (hc : clueOk kind a (told kind a up dn) = true) : fitSays kind a (told kind a up dn) up dn = (true, true) := by
  unfold fitSays
  rw [if_pos ⟨h, hc⟩, beq_self_eq_true]
/-! ### base_guess -/
theorem mem_solD {l : List Clu} {up : Int} {s : Sna} (d : Nat) : ∀ j, s ∈ solD l up d j → s.1 = up ∧ (j ≤ s.2 ∧ s.2 < j + d) ∧ fitAll l s.1 s.2 = true := by
  induction d with
  | zero => intro j h; simp [solD] at h
  | succ d ih =>
    intro j h
    rw [solD, List.mem_append] at h
    rcases h with h | h
    · split at h
      · rename_i hf
        simp only [List.mem_singleton] at h
        subst h
        exact ⟨rfl, ⟨by simp, by simp; omega⟩, hf⟩
      · simp at h
    · obtain ⟨h1, h2, h3⟩ := ih (j + 1) h
      exact ⟨h1, by omega, h3⟩
theorem mem_solU {l : List Clu} {s : Sna} (d : Nat) : ∀ i, s ∈ solU l d i → (i ≤ s.1 ∧ s.1 < i + d) ∧ (0 ≤ s.2 ∧ s.2 < 13) ∧ fitAll l s.1 s.2 = true := by
  induction d with
  | zero => intro i h; simp [solU] at h
  | succ d ih =>
    intro i h
    rw [solU, List.mem_append] at h
    rcases h with h | h
    · obtain ⟨h1, h2, h3⟩ := mem_solD 13 0 h
      exact ⟨by omega, by omega, h3⟩
    · obtain ⟨h1, h2, h3⟩ := ih (i + 1) h
      exact ⟨by omega, h2, h3⟩
theorem mem_sols {l : List Clu} {s : Sna} (h : s ∈ sols l) : hidOk s.1 s.2 ∧ fitAll l s.1 s.2 = true := by
  obtain ⟨h1, h2, h3⟩ := mem_solU 12 1 h
  exact ⟨by unfold hidOk; omega, h3⟩
/-- Earlier in the order of snails. -/
def before (a b : Sna) : Prop := a.1 < b.1 ∨ (a.1 = b.1 ∧ a.2 < b.2)
theorem solD_order {l : List Clu} {up : Int} (d : Nat) : ∀ j, (solD l up d j).Pairwise before := by
  induction d with
  | zero => intro j; exact List.Pairwise.nil
  | succ d ih =>
    intro j
    rw [solD, List.pairwise_append]
    refine ⟨by split <;> simp, ih (j + 1), fun a ha b hb => ?_⟩
    split at ha
    · simp only [List.mem_singleton] at ha
      subst ha
      obtain ⟨h1, h2, _⟩ := mem_solD d (j + 1) hb
      exact .inr ⟨h1.symm, by simp; omega⟩
    · simp at ha
theorem solU_order {l : List Clu} (d : Nat) : ∀ i, (solU l d i).Pairwise before := by
  induction d with
  | zero => intro i; exact List.Pairwise.nil
  | succ d ih =>
    intro i
    rw [solU, List.pairwise_append]
    refine ⟨solD_order 13 0, ih (i + 1), fun a ha b hb => ?_⟩
    obtain ⟨h1, _, _⟩ := mem_solD 13 0 ha
    obtain ⟨h2, _, _⟩ := mem_solU d (i + 1) hb
    exact .inl (by omega)
theorem sols_order {l : List Clu} {i : Nat} (h : i + 1 < (sols l).length) : before ((sols l).getD i (0, 0)) ((sols l).getD (i + 1) (0, 0)) := by
  have h' : i + 1 < (solU l 12 1).length := h
  show before ((solU l 12 1).getD i (0, 0)) ((solU l 12 1).getD (i + 1) (0, 0))
  rw [List.getD_eq_getElem?_getD, List.getD_eq_getElem?_getD, List.getElem?_eq_getElem (show i < (solU l 12 1).length by omega), List.getElem?_eq_getElem h']
  exact List.pairwise_iff_getElem.1 (solU_order (l := l) 12 1) i (i + 1) (by omega) h' (by omega)
theorem sols_none : (sols []).length = 156 := by decide +kernel
theorem left_at {l : List Clu} (d : Nat) : ∀ (i k : Nat), k < d → (leftGo l d i).getD k 0 = ((sols (l.take (i + k))).length : Int) := by
  induction d with
  | zero => intro i k h; omega
  | succ d ih =>
    intro i k h
    rw [leftGo]
    cases k with
    | zero => simp
    | succ k =>
      rw [List.getD_cons_succ, ih (i + 1) k (by omega), show i + 1 + k = i + (k + 1) by omega]
theorem left_falls (l : List Clu) (k : Nat) : (sols (l.take (k + 1))).length ≤ (sols (l.take k)).length :=
  (sols_sub fun v hv => (List.take_sublist_take_left (Nat.le_succ k)).subset hv).length_le
theorem sure_fst : ∀ {L : List Sna} {a b : Int}, (∀ s ∈ L, 0 ≤ s.1) → 0 ≤ (sureGo L a b).1 → (sureGo L a b).1 = a ∧ ∀ s ∈ L, s.1 = a
  | [], a, b, _, _ => ⟨rfl, fun s h => by simp at h⟩
  | s :: t, a, b, h, h0 => by
    rw [sureGo] at h0 ⊢
    obtain ⟨h1, h2⟩ := sure_fst (fun u hu => h u (List.mem_cons_of_mem _ hu)) h0
    by_cases e : s.1 = a
    · rw [if_pos e] at h1 h2 ⊢
      exact ⟨h1, fun u hu => by rcases List.mem_cons.1 hu with rfl | hu; exact e; exact h2 u hu⟩
    · rw [if_neg e] at h1
      rw [if_neg e] at h0
      rw [h1] at h0
      omega
theorem sure_snd : ∀ {L : List Sna} {a b : Int}, (∀ s ∈ L, 0 ≤ s.2) → 0 ≤ (sureGo L a b).2.1 → (sureGo L a b).2.1 = b ∧ ∀ s ∈ L, s.2 = b
  | [], a, b, _, _ => ⟨rfl, fun s h => by simp at h⟩
  | s :: t, a, b, h, h0 => by
    rw [sureGo] at h0 ⊢
    obtain ⟨h1, h2⟩ := sure_snd (fun u hu => h u (List.mem_cons_of_mem _ hu)) h0
    by_cases e : s.2 = b
    · rw [if_pos e] at h1 h2 ⊢
      exact ⟨h1, fun u hu => by rcases List.mem_cons.1 hu with rfl | hu; exact e; exact h2 u hu⟩
    · rw [if_neg e] at h1
      rw [if_neg e] at h0
      rw [h1] at h0
      omega
theorem sure_ok : ∀ (L : List Sna) (a b : Int), (sureGo L a b).2.2 = true
  | [], a, b => rfl
  | s :: t, a, b => by rw [sureGo]; exact sure_ok t _ _
theorem need_at {l : List Clu} (d : Nat) : ∀ (i k : Nat), i ≤ k → k < i + d → ((needGo l d i).any fun y => y == (k : Int)) = (((sols (dropAt l k)).length : Int) == ((sols l).length : Int)) := by
  induction d with
  | zero => intro i k h1 h2; omega
  | succ d ih =>
    intro i k h1 h2
    have no : ∀ (d i : Nat), k < i → ((needGo l d i).any fun y => y == (k : Int)) = false := by
      intro d
      induction d with
      | zero => intro i _; rfl
      | succ d ih =>
        intro i hi
        rw [needGo]
        split
        · rw [List.any_cons, ih (i + 1) (by omega), Bool.or_false, beq_eq_false_iff_ne]
          omega
        · exact ih (i + 1) (by omega)
    rw [needGo]
    by_cases e : k = i
    · subst e
      split
      · rename_i h
        rw [List.any_cons, beq_self_eq_true, Bool.true_or, h, beq_self_eq_true]
      · rename_i h
        rw [no d (k + 1) (by omega)]
        exact (beq_eq_false_iff_ne.2 h).symm
    · split
      · rw [List.any_cons, ih (i + 1) k (by omega) (by omega), show ((i : Int) == (k : Int)) = false by rw [beq_eq_false_iff_ne]; omega, Bool.false_or]
      · exact ih (i + 1) k (by omega) (by omega)
theorem best_is {l : List Clu} (d : Nat) : ∀ (i b : Nat), i + d = l.length → b < i → (∀ j, j < i → cntAt l b ≤ cntAt l j) → (∀ j, j < b → cntAt l b < cntAt l j) →
    ∃ b' : Nat, bestGo l d i (b : Int) (cntAt l b) = ((b' : Int), true) ∧ b' < l.length ∧ (∀ j, j < l.length → cntAt l b' ≤ cntAt l j) ∧ ∀ j, j < b' → cntAt l b' < cntAt l j := by
  induction d with
  | zero =>
    intro i b hi hb h1 h2
    exact ⟨b, rfl, by omega, fun j hj => h1 j (by omega), h2⟩
  | succ d ih =>
    intro i b hi hb h1 h2
    rw [bestGo]
    by_cases hc : cntAt l i < cntAt l b
    · rw [if_pos hc]
      refine ih (i + 1) i (by omega) (by omega) (fun j hj => ?_) (fun j hj => ?_)
      · by_cases e : j = i
        · subst e; exact Int.le_refl _
        · have := h1 j (by omega); omega
      · have := h1 j hj; omega
    · rw [if_neg hc]
      refine ih (i + 1) b (by omega) (by omega) (fun j hj => ?_) h2
      by_cases e : j = i
      · subst e; omega
      · exact h1 j (by omega)
theorem best_at {l : List Clu} (h : l.length ≠ 0) : ∃ b' : Nat, bestGo l (l.length - 1) 1 0 (cntAt l 0) = ((b' : Int), true) ∧ b' < l.length ∧ (∀ j, j < l.length → cntAt l b' ≤ cntAt l j) ∧ ∀ j, j < b' → cntAt l b' < cntAt l j :=
  best_is (l := l) (l.length - 1) 1 0 (by omega) (by omega) (fun j hj => by rw [show j = 0 by omega]; exact Int.le_refl _) (fun j hj => by omega)
theorem pp_of {l : List Clu} (h : cluOk l = true) : ppSays (puzText l) = (l, true) := by
  unfold ppSays
  cases l with
  | nil => rfl
  | cons v r =>
    have hne : puzText (v :: r) ≠ [] := by
      unfold puzText
      rw [List.map_cons, Lib.join_cons]
      intro e
      have := congrArg List.length e
      simp [cText] at this
    rw [if_neg hne]
    have hs : splitL 44 (puzText (v :: r)) = (v :: r).map cText := by
      unfold puzText
      refine splitL_of_join 44 _ (by simp) ?_
      intro x hx
      obtain ⟨u, hu, rfl⟩ := List.mem_map.1 hx
      exact (cText_no (clu_mem h hu)).1
    rw [hs, trips_of (fun u hu => clu_mem h hu), cluIf, if_pos h]
theorem pp_is {w : List UInt8} (h : (ppSays w).2 = true) : cluOk (ppSays w).1 = true ∧ puzText (ppSays w).1 = w := by
  rw [ppSays_eq] at h ⊢
  unfold ppSaysR at *
  split at h
  · cases h
  · rename_i h1
    rw [if_neg h1]
    split at h
    · rename_i h2
      rw [if_pos h2]
      exact ⟨by decide, by rw [h2]; rfl⟩
    · rename_i h2
      rw [if_neg h2]
      unfold cluIfR at *
      split at h
      · rename_i cs
        split at h
        · rename_i h3
          rw [if_pos h3]
          exact h3
        · cases h
      · cases h
theorem drop_at {l : List Clu} (hc : cluOk l = true) {k : Nat} (hk : k < l.length) : dropSays l (k : Int) = (dropAt l k, true) := by
  unfold dropSays
  rw [if_pos ⟨hc, by omega, by omega⟩, castsub]
theorem count_ok {l : List Clu} (hc : cluOk l = true) : countSays l = (((sols l).length : Int), true) := if_pos hc
theorem best_ok {l : List Clu} (hc : cluOk l = true) (h : l.length ≠ 0) : ∃ b' : Nat, bestSays l = ((b' : Int), true) ∧ b' < l.length ∧ (∀ j, j < l.length → cntAt l b' ≤ cntAt l j) ∧ ∀ j, j < b' → cntAt l b' < cntAt l j := by
  obtain ⟨b', h1, h2, h3, h4⟩ := best_at h
  exact ⟨b', by unfold bestSays; rw [if_pos hc, if_neg h, h1], h2, h3, h4⟩
theorem law_l6 {x0 : ByteArray} (hT : Ev (fun k => laws_FnSnailsGuessedOfAll.l3 k x0) true) {l : List Clu} (hc : cluOk l = true) (d : Nat) : ∀ k : Nat, k + d = l.length →
    Ev (fun n => laws_FnSnailsGuessedOfAll.l6 n x0 ((sols l).length : Int) (needGo l l.length 0) (leftGo l (l.length + 1) 0) (bestSays l).1 (bL (puzText l)) (l.length : Int) (k : Int) l) true := by
  have hl := clu_len hc
  induction d with
  | zero =>
    intro k hk
    have hp := puzText_len hc
    refine ev_s ?_
    simp only [laws_FnSnailsGuessedOfAll.b6, laws_FnSnailsGuessedOfAll.l6, decide_eq_true_eq, if_neg (show ¬ (k : Int) < l.length by omega)]
    refine Ev.bind (impl_ParsePuzzle_eq (l := puzText l) (by omega)) ?_
    simp only [pp_of hc, Bool.not_true, Bool.false_eq_true, if_false]
    refine Ev.bind (laws_qClues_same (by omega)) ?_
    simp only [Bool.not_true, Bool.false_eq_true, if_false]
    exact hT
  | succ d ih =>
    intro k hkd
    have hk : k < l.length := by omega
    have hne : l.length ≠ 0 := by omega
    obtain ⟨b', hb, hb1, hb2, hb3⟩ := best_ok hc hne
    have h := ih (k + 1) (by omega)
    rw [hb] at h ⊢
    have eW : W ((k : Int) + 1) = ((k + 1 : Nat) : Int) := by rw [w64 (by omega) (by omega)]; omega
    have eB : W ((b' : Int) + 1) = ((b' + 1 : Nat) : Int) := by rw [w64 (by omega) (by omega)]; omega
    have hdc := cluOk_sub hc (dropAt_sub l k)
    have hL : (leftGo l (l.length + 1) 0).length = l.length + 1 := leftGo_len l _ 0
    have r1 : rd 0 (leftGo l (l.length + 1) 0) ((k + 1 : Nat) : Int) = ((sols (l.take (k + 1))).length : Int) := by rw [rd_nat, left_at (l.length + 1) 0 (k + 1) (by omega), Nat.zero_add]
    have r0 : rd 0 (leftGo l (l.length + 1) 0) (k : Int) = ((sols (l.take k)).length : Int) := by rw [rd_nat, left_at (l.length + 1) 0 k (by omega), Nat.zero_add]
    have hfall := left_falls l k
    have hck := cluOk_sub hc ((List.drop_sublist k (l.take (k + 1))).trans (List.take_sublist _ _))
    have hcb := cluOk_sub hc ((List.drop_sublist b' (l.take (b' + 1))).trans (List.take_sublist _ _))
    have e3 := count_ok hck
    have e4 := count_ok hcb
    have hle := hb2 k hk
    unfold cntAt at hle hb3
    refine ev_s ?_
    simp only [laws_FnSnailsGuessedOfAll.b6, laws_FnSnailsGuessedOfAll.l6, decide_eq_true_eq, if_pos (show (k : Int) < l.length by omega)]
    refine Ev.bind (impl_DropClue_eq l k) ?_
    simp only [drop_at hc hk]
    refine Ev.bind (impl_CountSolutions_eq _) ?_
    simp only [count_ok hdc, Bool.not_true, Bool.false_eq_true, if_false]
    refine Ev.bind (laws_qHas_eq (by have := needGo_len l l.length 0; omega) (k : Int)) ?_
    simp only [need_at l.length 0 k (by omega) (by omega), beq_self_eq_true, Bool.not_true, Bool.false_eq_true, if_false, eW, dlen, hL, r0, r1, castsub, if_pos (show (0 : Int) ≤ ((k + 1 : Nat) : Int) by omega), if_pos (show ((k + 1 : Nat) : Int) < ((l.length + 1 : Nat) : Int) by omega), if_pos (show (0 : Int) ≤ (k : Int) by omega), if_pos (show (k : Int) < ((l.length + 1 : Nat) : Int) by omega),
      if_neg (show ¬ ((sols (l.take (k + 1))).length : Int) > ((sols (l.take k)).length : Int) by omega), if_neg (show ¬ (b' : Int) < 0 by omega), if_neg (show ¬ (b' : Int) ≥ l.length by omega), if_pos (show (k : Int) ≤ ((k + 1 : Nat) : Int) by omega), if_pos (show ((k + 1 : Nat) : Int) ≤ l.length by omega), eB, if_pos (show (0 : Int) ≤ (b' : Int) by omega), if_pos (show (b' : Int) ≤ ((b' + 1 : Nat) : Int) by omega), if_pos (show ((b' + 1 : Nat) : Int) ≤ l.length by omega)]
    refine Ev.bind (impl_CountSolutions_eq _) ?_
    refine Ev.bind (impl_CountSolutions_eq _) ?_
    simp only [e3, e4, Bool.not_true, Bool.false_eq_true, if_false, if_neg (show ¬ (((sols (List.drop k (List.take (k + 1) l))).length : Nat) : Int) < (((sols (List.drop b' (List.take (b' + 1) l))).length : Nat) : Int) by omega)]
    by_cases hkb : k < b'
    · have := hb3 k hkb
      simp only [if_pos (show (k : Int) < (b' : Int) by omega), show ((((sols (List.drop k (List.take (k + 1) l))).length : Nat) : Int) == (((sols (List.drop b' (List.take (b' + 1) l))).length : Nat) : Int)) = false by rw [beq_eq_false_iff_ne]; omega, Bool.false_eq_true, if_false]
      exact h
    · simp only [if_neg (show ¬ (k : Int) < (b' : Int) by omega)]
      exact h
theorem law_l5 {x0 : ByteArray} {l : List Clu} (hc : cluOk l = true) {s : Sna} (hs : hidOk s.1 s.2) (hf : fitAll l s.1 s.2 = true) {all : List Sna} {cnt up dn : Int} {need left : List Int} {best : Int} {text : ByteArray} {len i : Int}
    (hN : Ev (fun n => laws_FnSnailsGuessedOfAll.l4 n x0 all cnt up dn need left best text all len (W (i + 1)) l) true) (d : Nat) : ∀ j : Nat, j + d = l.length →
    Ev (fun n => laws_FnSnailsGuessedOfAll.l5 n x0 all cnt up dn need left best text all len i l (l.length : Int) (j : Int) l s.1 s.2) true := by
  have hl := clu_len hc
  induction d with
  | zero =>
    intro j hj
    refine ev_s ?_
    simp only [laws_FnSnailsGuessedOfAll.b5, laws_FnSnailsGuessedOfAll.l5, decide_eq_true_eq, if_neg (show ¬ (j : Int) < l.length by omega)]
    exact hN
  | succ d ih =>
    intro j hj
    have hjl : j < l.length := by omega
    have hm : l.getD j (0, 0, 0) ∈ l := by
      rw [List.getD_eq_getElem?_getD, List.getElem?_eq_getElem hjl]
      exact List.getElem_mem hjl
    have hg := clu_mem hc hm
    have ht : told (l.getD j (0, 0, 0)).1 (l.getD j (0, 0, 0)).2.1 s.1 s.2 = (l.getD j (0, 0, 0)).2.2 := by
      unfold fitAll at hf
      have := List.all_eq_true.1 hf _ hm
      exact beq_iff_eq.1 this
    have e : fitSays (l.getD j (0, 0, 0)).1 (l.getD j (0, 0, 0)).2.1 (l.getD j (0, 0, 0)).2.2 s.1 s.2 = (true, true) := by
      unfold fitSays
      rw [if_pos ⟨hs, hg⟩, ht, beq_self_eq_true]
    refine ev_s ?_
    simp (disch := omega) only [laws_FnSnailsGuessedOfAll.b5, laws_FnSnailsGuessedOfAll.l5, decide_eq_true_eq, dlen, if_pos (show (j : Int) < l.length by omega), if_pos (show 0 ≤ (j : Int) by omega), rd_nat, impl_DoesFit_eq, Option.bind_some, e, Bool.not_true, Bool.false_eq_true, if_false, w64, cs1]
    exact ih (j + 1) (by omega)
theorem Ev.no {α : Type} {c : Prop} {I : Decidable c} (h : ¬ c) {a : Option α} {f : Nat → Option α} {r : α} (k : Ev f r) : Ev (fun n => @ite _ c I a (f n)) r := by
  obtain ⟨K, k⟩ := k
  exact ⟨K, fun n hn => (if_neg h).trans (k n hn)⟩
theorem law_l4 {x0 : ByteArray} {l : List Clu} (hc : cluOk l = true) {up dn : Int} (hu : 0 ≤ up → ∀ s ∈ sols l, s.1 = up) (hd : 0 ≤ dn → ∀ s ∈ sols l, s.2 = dn) {cnt : Int} {need left : List Int} {best : Int} {text : ByteArray}
    (h6 : Ev (fun n => laws_FnSnailsGuessedOfAll.l6 n x0 cnt need left best text (l.length : Int) 0 l) true) (d : Nat) : ∀ i : Nat, i + d = (sols l).length →
    Ev (fun n => laws_FnSnailsGuessedOfAll.l4 n x0 (sols l) cnt up dn need left best text (sols l) ((sols l).length : Int) (i : Int) l) true := by
  have hl := sols_len l
  induction d with
  | zero =>
    intro i hi
    refine ev_s ?_
    simp only [laws_FnSnailsGuessedOfAll.b4, laws_FnSnailsGuessedOfAll.l4, decide_eq_true_eq, if_neg (show ¬ (i : Int) < (sols l).length by omega)]
    exact h6
  | succ d ih =>
    intro i hi
    have hil : i < (sols l).length := by omega
    have hm : (sols l).getD i (0, 0) ∈ sols l := by
      rw [List.getD_eq_getElem?_getD, List.getElem?_eq_getElem hil]
      exact List.getElem_mem hil
    obtain ⟨hs, hf⟩ := mem_sols hm
    have hs' := hs
    unfold hidOk at hs'
    have h := ih (i + 1) (by omega)
    rw [← cs1, ← w64 (x := (i : Int) + 1) (by omega) (by omega)] at h
    have h5 := law_l5 (x0 := x0) hc hs hf h l.length 0 (by omega)
    have hu' : 0 ≤ up → ((sols l).getD i (0, 0)).1 = up := fun h0 => hu h0 _ hm
    have hd' : 0 ≤ dn → ((sols l).getD i (0, 0)).2 = dn := fun h0 => hd h0 _ hm
    have hS : impl_IsSnail.f ((sols l).getD i (0, 0)).1 ((sols l).getD i (0, 0)).2 = some true := by rw [impl_IsSnail_eq]; congr 1; exact dec_t (by omega)
    refine ev_s ?_
    simp only [laws_FnSnailsGuessedOfAll.b4, laws_FnSnailsGuessedOfAll.l4, decide_eq_true_eq, bne_iff_ne, ne_eq, beq_iff_eq]
    simp only [dlen, if_pos (show (i : Int) < (sols l).length by omega), if_pos (show 0 ≤ (i : Int) by omega), rd_nat, hS, Option.bind_some, Bool.not_true, Bool.false_eq_true, if_false]
    refine Ev.no (show ¬ ((sols l).getD i (0, 0)).1 > 12 by omega) (Ev.no (show ¬ ((sols l).getD i (0, 0)).2 > 12 by omega) ?_)
    have tail : Ev (fun n => if (i : Int) > 0 then (if 0 ≤ W ((i : Int) - 1) then (if W ((i : Int) - 1) < ((sols l).length : Int) then (if (rd ((0, 0) : Sna) (sols l) (W ((i : Int) - 1))).1 > ((sols l).getD i (0, 0)).1 then some false else (if 0 ≤ W ((i : Int) - 1) then (if W ((i : Int) - 1) < ((sols l).length : Int) then (if (rd ((0, 0) : Sna) (sols l) (W ((i : Int) - 1))).1 = ((sols l).getD i (0, 0)).1 then (if 0 ≤ W ((i : Int) - 1) then (if W ((i : Int) - 1) < ((sols l).length : Int) then (if (rd ((0, 0) : Sna) (sols l) (W ((i : Int) - 1))).2 ≥ ((sols l).getD i (0, 0)).2 then some false else laws_FnSnailsGuessedOfAll.l5 n x0 (sols l) cnt up dn need left best text (sols l) ((sols l).length : Int) (i : Int) l (l.length : Int) 0 l ((sols l).getD i (0, 0)).1 ((sols l).getD i (0, 0)).2) else none) else none) else laws_FnSnailsGuessedOfAll.l5 n x0 (sols l) cnt up dn need left best text (sols l) ((sols l).length : Int) (i : Int) l (l.length : Int) 0 l ((sols l).getD i (0, 0)).1 ((sols l).getD i (0, 0)).2) else none) else none)) else none) else none) else laws_FnSnailsGuessedOfAll.l5 n x0 (sols l) cnt up dn need left best text (sols l) ((sols l).length : Int) (i : Int) l (l.length : Int) 0 l ((sols l).getD i (0, 0)).1 ((sols l).getD i (0, 0)).2) true := by
      cases i with
      | zero =>
        simp only [if_neg (show ¬ ((0 : Nat) : Int) > 0 by omega)]
        exact h5
      | succ i =>
        have hb := sols_order (l := l) (i := i) hil
        have ew : W (((i + 1 : Nat) : Int) - 1) = (i : Int) := by rw [w64 (by omega) (by omega)]; omega
        unfold before at hb
        simp only [ew, rd_nat, if_pos (show ((i + 1 : Nat) : Int) > 0 by omega), if_pos (show 0 ≤ (i : Int) by omega), if_pos (show (i : Int) < ((sols l).length : Int) by omega), if_neg (show ¬ ((sols l).getD i (0, 0)).1 > ((sols l).getD (i + 1) (0, 0)).1 by omega)]
        by_cases he : ((sols l).getD i (0, 0)).1 = ((sols l).getD (i + 1) (0, 0)).1
        · simp only [if_pos he, if_neg (show ¬ ((sols l).getD i (0, 0)).2 ≥ ((sols l).getD (i + 1) (0, 0)).2 by omega)]
          exact h5
        · simp only [if_neg he]
          exact h5
    by_cases h1 : up ≥ 0
    · by_cases h2 : dn ≥ 0
      · simp only [if_pos h1, if_pos h2, hu' h1, hd' h2, not_true_eq_false, if_false]
        rw [hu' h1, hd' h2] at tail
        exact tail
      · simp only [if_pos h1, if_neg h2, hu' h1, not_true_eq_false, if_false]
        rw [hu' h1] at tail
        exact tail
    · by_cases h2 : dn ≥ 0
      · simp only [if_neg h1, if_pos h2, hd' h2, not_true_eq_false, if_false]
        rw [hd' h2] at tail
        exact tail
      · simp only [if_neg h1, if_neg h2]
        exact tail
theorem seq_self (s : ByteArray) : seq s s = true := by unfold seq; exact beq_self_eq_true _
theorem sure_up {l : List Clu} (hc : cluOk l = true) (h0 : 0 ≤ (sureSays l).1) : ∀ s ∈ sols l, s.1 = (sureSays l).1 := by
  intro s hs
  have hne : ¬ ((sols l).length : Int) = 0 := by
    intro e
    rw [List.eq_nil_of_length_eq_zero (show (sols l).length = 0 by omega)] at hs
    simp at hs
  unfold sureSays at *
  rw [if_pos hc, if_neg hne] at *
  obtain ⟨h1, h2⟩ := sure_fst (fun u hu => by have := (mem_sols hu).1; unfold hidOk at this; omega) h0
  rw [h1]
  exact h2 s hs
theorem sure_dn {l : List Clu} (hc : cluOk l = true) (h0 : 0 ≤ (sureSays l).2.1) : ∀ s ∈ sols l, s.2 = (sureSays l).2.1 := by
  intro s hs
  have hne : ¬ ((sols l).length : Int) = 0 := by
    intro e
    rw [List.eq_nil_of_length_eq_zero (show (sols l).length = 0 by omega)] at hs
    simp at hs
  unfold sureSays at *
  rw [if_pos hc, if_neg hne] at *
  obtain ⟨h1, h2⟩ := sure_snd (fun u hu => by have := (mem_sols hu).1; unfold hidOk at this; omega) h0
  rw [h1]
  exact h2 s hs
theorem sure_one {l : List Clu} (hc : cluOk l = true) (h1 : ((sols l).length : Int) = 1) : (sureSays l).1 = (firstSays2 l).1.1 ∧ (sureSays l).2.1 = (firstSays2 l).1.2 := by
  have hne : ¬ ((sols l).length : Int) = 0 := by omega
  unfold sureSays firstSays2
  rw [if_pos hc, if_pos hc, if_neg hne, if_neg hne]
  obtain ⟨s, hs⟩ := List.length_eq_one_iff.1 (show (sols l).length = 1 by omega)
  rw [hs]
  simp [sureGo, rd]
theorem law_l1 {x0 : ByteArray} (hT : Ev (fun k => laws_FnSnailsGuessedOfAll.l3 k x0) true) {l : List Clu} (hc : cluOk l = true) :
    Ev (fun n => laws_FnSnailsGuessedOfAll.l1 n x0 (sols l) true ((sols l).length : Int) (firstSays2 l).2 (sureSays l).1 (sureSays l).2.1 (((sols l).length : Int) == 1) (needGo l l.length 0) (leftGo l (l.length + 1) 0) (bestSays l).1 (bL (puzText l)) l (firstSays2 l).1.1 (firstSays2 l).1.2) true := by
  have hl := clu_len hc
  have h6 := law_l6 hT hc l.length 0 (by omega)
  have h4 := law_l4 hc (sure_up hc) (sure_dn hc) h6 (sols l).length 0 (by omega)
  have h2 : Ev (fun n => laws_FnSnailsGuessedOfAll.l2 n x0 (sols l) ((sols l).length : Int) (sureSays l).1 (sureSays l).2.1 (needGo l l.length 0) (leftGo l (l.length + 1) 0) (bestSays l).1 (bL (puzText l)) l) true := by
    refine ev_s ?_
    simp only [laws_FnSnailsGuessedOfAll.b2, laws_FnSnailsGuessedOfAll.l2, dlen]
    exact h4
  have hL : (leftGo l (l.length + 1) 0).length = l.length + 1 := leftGo_len l _ 0
  have e1 : (((leftGo l (l.length + 1) 0).length : Int) != W ((l.length : Int) + 1)) = false := by rw [hL, w64 (by omega) (by omega)]; simp
  have e2 : (rd 0 (leftGo l (l.length + 1) 0) 0 != 156) = false := by
    have := left_at (l := l) (l.length + 1) 0 0 (by omega)
    rw [show rd 0 (leftGo l (l.length + 1) 0) 0 = (leftGo l (l.length + 1) 0).getD 0 0 from rfl, this]
    simp [sols_none]
  have e3 : (rd 0 (leftGo l (l.length + 1) 0) (l.length : Int) != ((sols l).length : Int)) = false := by
    rw [rd_nat, left_at (l.length + 1) 0 l.length (by omega), Nat.zero_add, List.take_length]
    simp
  have rest : Ev (fun n => if (((leftGo l (l.length + 1) 0).length : Int) != W ((l.length : Int) + 1)) = true then some false else (if 0 < ((leftGo l (l.length + 1) 0).length : Int) then (if (rd 0 (leftGo l (l.length + 1) 0) 0 != 156) = true then some false else (if 0 ≤ (l.length : Int) then (if (l.length : Int) < ((leftGo l (l.length + 1) 0).length : Int) then (if (rd 0 (leftGo l (l.length + 1) 0) (l.length : Int) != ((sols l).length : Int)) = true then some false else (if (((sols l).length : Int) == 1) = true then (if ((sureSays l).1 != (firstSays2 l).1.1) = true then some false else (if ((sureSays l).2.1 != (firstSays2 l).1.2) = true then some false else laws_FnSnailsGuessedOfAll.l2 n x0 (sols l) ((sols l).length : Int) (sureSays l).1 (sureSays l).2.1 (needGo l l.length 0) (leftGo l (l.length + 1) 0) (bestSays l).1 (bL (puzText l)) l)) else laws_FnSnailsGuessedOfAll.l2 n x0 (sols l) ((sols l).length : Int) (sureSays l).1 (sureSays l).2.1 (needGo l l.length 0) (leftGo l (l.length + 1) 0) (bestSays l).1 (bL (puzText l)) l)) else none) else none)) else none)) true := by
    simp only [e1, e2, e3, Bool.false_eq_true, if_false, if_pos (show 0 < ((leftGo l (l.length + 1) 0).length : Int) by omega), if_pos (show 0 ≤ (l.length : Int) by omega), if_pos (show (l.length : Int) < ((leftGo l (l.length + 1) 0).length : Int) by omega)]
    by_cases h1 : ((sols l).length : Int) = 1
    · obtain ⟨a, b⟩ := sure_one hc h1
      simp only [if_pos (show (((sols l).length : Int) == 1) = true by rw [h1]; rfl), a, b, bne_self_eq_false, Bool.false_eq_true, if_false]
      rw [a, b] at h2
      exact h2
    · simp only [if_neg (show ¬ (((sols l).length : Int) == 1) = true by simp; omega)]
      exact h2
  refine ev_s ?_
  simp only [laws_FnSnailsGuessedOfAll.b1, laws_FnSnailsGuessedOfAll.l1, dlen, bne_self_eq_false, beq_self_eq_true, Bool.not_true, Bool.false_eq_true, if_false, if_true]
  by_cases h0 : ((sols l).length : Int) = 0
  · have ef : (firstSays2 l).2 = false := by unfold firstSays2; rw [if_pos hc, if_pos h0]
    simp only [if_neg (show ¬ (firstSays2 l).2 = true by rw [ef]; decide)]
    exact rest
  · have ef : firstSays2 l = (rd ((0, 0) : Sna) (sols l) 0, true) := by unfold firstSays2; rw [if_pos hc, if_neg h0]
    rw [ef] at rest ⊢
    simp only [if_true, if_pos (show 0 < ((sols l).length : Int) by omega), beq_self_eq_true, Bool.and_self, Bool.not_true, Bool.false_eq_true, if_false]
    exact rest
theorem law_l0 {x0 : ByteArray} (hT : Ev (fun k => laws_FnSnailsGuessedOfAll.l3 k x0) true) {l : List Clu} (hl : l.length ≤ 5864062014804) :
    Ev (fun n => laws_FnSnailsGuessedOfAll.l0 n x0 (solsSays l).1 (solsSays l).2 (solsSays l).1 (solsSays l).2 (countSays l).1 (countSays l).2 (countSays l).1 (countSays l).2 (firstSays2 l).2 (firstSays2 l).2 (sureSays l).1 (sureSays l).2.1 (sureSays l).2.2 (sureSays l).1 (sureSays l).2.1 (sureSays l).2.2 (solvedSays l).1 (solvedSays l).2 (solvedSays l).1 (solvedSays l).2 (needSays l).1 (needSays l).2 (needSays l).1 (needSays l).2 (leftSays l).1 (leftSays l).2 (leftSays l).1 (leftSays l).2 (bestSays l).1 (bestSays l).2 (bestSays l).1 (bestSays l).2 (pTextSays l).1 (pTextSays l).2 (pTextSays l).1 (pTextSays l).2 l (firstSays2 l).1.1 (firstSays2 l).1.2 (firstSays2 l).1.1 (firstSays2 l).1.2) true := by
  have hs := solsSays_len l
  have hn := needSays_len l
  have hlf : (leftSays l).1.length ≤ 7 := by
    unfold leftSays
    split
    · rename_i h
      have := clu_len h
      simp only [leftGo_len]
      omega
    · simp
  refine ev_s ?_
  simp only [laws_FnSnailsGuessedOfAll.b0, laws_FnSnailsGuessedOfAll.l0, beq_self_eq_true, bne_self_eq_false, Bool.and_self, Bool.not_true, Bool.false_eq_true, if_false]
  refine Ev.bind (laws_qSnails_same (by omega)) ?_
  simp only [Bool.not_true, Bool.false_eq_true, if_false]
  refine Ev.bind (laws_qSame_same (by omega)) ?_
  simp only [Bool.not_true, Bool.false_eq_true, if_false]
  refine Ev.bind (laws_qSame_same (by omega)) ?_
  simp only [seq_self, Bool.not_true, Bool.false_eq_true, if_false]
  refine Ev.bind (impl_IsPuzzle_eq l) ?_
  by_cases hc : cluOk l = true
  · have h1 := law_l1 hT hc
    have a1 : solsSays l = (sols l, true) := if_pos hc
    have a2 := count_ok hc
    have a3 : solvedSays l = (((sols l).length : Int) == 1, true) := if_pos hc
    have a4 : needSays l = (needGo l l.length 0, true) := if_pos hc
    have a5 : leftSays l = (leftGo l (l.length + 1) 0, true) := if_pos hc
    have a6 : pTextSays l = (bL (puzText l), true) := if_pos hc
    have a7 : (firstSays2 l).2 = decide (((sols l).length : Int) > 0) := by
      unfold firstSays2
      rw [if_pos hc]
      by_cases h0 : ((sols l).length : Int) = 0
      · rw [if_pos h0]; exact (dec_f (by omega)).symm
      · rw [if_neg h0]; exact (dec_t (by omega)).symm
    have a8 : (sureSays l).2.2 = (firstSays2 l).2 := by
      unfold sureSays firstSays2
      rw [if_pos hc, if_pos hc]
      by_cases h0 : ((sols l).length : Int) = 0
      · rw [if_pos h0, if_pos h0]
      · rw [if_neg h0, if_neg h0]; exact sure_ok _ _ _
    have a9 : (bestSays l).2 = decide ((l.length : Int) > 0) := by
      by_cases h0 : l.length = 0
      · unfold bestSays
        rw [if_pos hc, if_pos h0]
        exact (dec_f (by omega)).symm
      · obtain ⟨b', hb, _⟩ := best_ok hc h0
        rw [hb]
        exact (dec_t (by omega)).symm
    simp only [a1, a2, a3, a4, a5, a6, a8, a9, hc, dlen, beq_self_eq_true, Bool.not_true, Bool.false_eq_true, if_false, if_true]
    refine Ev.bind (impl_IsPuzzle_eq l) (Ev.bind (spec_IsPuzzle_eq l) ?_)
    rw [a7] at h1
    simp only [a7, hc, beq_self_eq_true, Bool.not_true, Bool.false_eq_true, if_false, if_true]
    exact h1
  · have b1 : solsSays l = ([], false) := if_neg hc
    have b2 : countSays l = (0, false) := if_neg hc
    have b3 : solvedSays l = (false, false) := if_neg hc
    have b4 : needSays l = ([], false) := if_neg hc
    have b5 : leftSays l = ([], false) := if_neg hc
    have b6 : pTextSays l = (bL [], false) := if_neg hc
    have b7 : firstSays2 l = ((0, 0), false) := if_neg hc
    have b8 : sureSays l = (0, 0, false) := if_neg hc
    have b9 : bestSays l = (0, false) := if_neg hc
    rw [Bool.not_eq_true] at hc
    simp only [b1, b2, b3, b4, b5, b6, b7, b8, b9, hc, beq_self_eq_true, Bool.not_true, Bool.false_eq_true, if_false, if_true]
    refine Ev.bind (impl_IsPuzzle_eq l) (Ev.bind (spec_IsPuzzle_eq l) ?_)
    simp only [hc, beq_self_eq_true, Bool.not_true, Bool.false_eq_true, if_false, if_true]
    refine ev_s ?_
    simp only [laws_FnSnailsGuessedOfAll.b1, laws_FnSnailsGuessedOfAll.l1, Bool.false_eq_true, if_false]
    exact hT
theorem law_read {w : List UInt8} (hw : w.length ≤ 1800000) : Ev (fun k => (impl_ParsePuzzle.f k (bL w)).bind fun t0 => (spec_ParsePuzzle.f k (bL w)).bind fun t1 => if (!(t0.2 == t1.2)) = true then some false else ((laws_qClues.f k t0.1 t1.1).bind fun t2 => if (!t2) = true then some false else (if t0.2 = true then ((impl_PuzzleText.f k t0.1).bind fun t3 => if t3.2 = true then some (seq t3.1 (bL w)) else some false) else some true))) true := by
  have hs := spec_ParsePuzzle_eq (l := w) (by omega)
  rw [← ppSays_eq] at hs
  refine Ev.bind (impl_ParsePuzzle_eq (l := w) (by omega)) (Ev.bind hs ?_)
  simp only [beq_self_eq_true, Bool.not_true, Bool.false_eq_true, if_false]
  refine Ev.bind (laws_qClues_same (by have := ppSays_len w; omega)) ?_
  simp only [Bool.not_true, Bool.false_eq_true, if_false]
  by_cases h : (ppSays w).2 = true
  · obtain ⟨h1, h2⟩ := pp_is h
    simp only [if_pos h]
    refine Ev.bind (impl_PuzzleText_eq _) ?_
    have e : pTextSays (ppSays w).1 = (bL w, true) := by unfold pTextSays; rw [if_pos h1, h2]
    simp only [e, if_true, seq_self]
    exact Ev.now _
  · simp only [if_neg h]
    exact Ev.now _
theorem mapLen {L : List (List Int)} (h : L.length * 24 ≤ 140737488351232) : (L.map (mkN 3)).length ≤ 5864062014804 := by rw [List.length_map]; omega
theorem FnSnailsGuessedOfAll (L : List (List Int)) (s : ByteArray) (m0 : L.length * 24 ≤ 140737488351232) (f0 : ∀ zs ∈ L, zs.length = 3 ∧ ∀ z ∈ zs, (Lit.int .i64 z).wf = true) (hs : s.size ≤ 140737488351232) : ∃ k, laws_FnSnailsGuessedOfAll.f k (L.map (mkN 3)) s = some true := by
  have hl := mapLen m0
  have hl' : (L.map (mkN 3) : List Clu).length ≤ 5864062014804 := hl
  show ∃ k, laws_FnSnailsGuessedOfAll.f k (L.map (mkN 3) : List Clu) s = some true
  generalize (L.map (mkN 3) : List Clu) = l at hl'
  obtain ⟨w, rfl⟩ : ∃ w, s = bL w := ⟨s.data.toList, (bL_toL s).symm⟩
  refine Ev.rounds ?_
  simp only [laws_FnSnailsGuessedOfAll.b, laws_FnSnailsGuessedOfAll.f, slen, bL_size, decide_eq_true_eq]
  by_cases hb : (w.length : Int) > 1048576
  · simp only [if_pos hb]
    exact Ev.now _
  · simp only [if_neg hb]
    have hT : Ev (fun k => laws_FnSnailsGuessedOfAll.l3 k (bL w)) true := by
      refine ev_s ?_
      exact law_read (by omega)
    refine Ev.bind (impl_Solutions_eq l) (Ev.bind (spec_Solutions_eq l) (Ev.bind (impl_CountSolutions_eq l) (Ev.bind (spec_CountSolutions_eq l) (Ev.bind (impl_FirstSolution_eq l) (Ev.bind (spec_FirstSolution_eq l) (Ev.bind (impl_SureSnail_eq l) (Ev.bind (spec_SureSnail_eq l) (Ev.bind (impl_IsSolved_eq l) (Ev.bind (spec_IsSolved_eq l) (Ev.bind (impl_NeedlessClues_eq l) (Ev.bind (spec_NeedlessClues_eq l) (Ev.bind (impl_LeftByClues_eq l) (Ev.bind (spec_LeftByClues_eq l) (Ev.bind (impl_BestClue_eq l) (Ev.bind (spec_BestClue_eq l) (Ev.bind (impl_PuzzleText_eq l) (Ev.bind (spec_PuzzleText_eq l) ?_)))))))))))))))))
    exact law_l0 hT hl'
end Go.Proofs.YtlibgicponpecaaGreatDoor.Ga
