import Derived.Test.YtnpfeemkichniaaPc
import Derived.Test.YtnpfeemkichniaaHiF2
namespace Go.Proofs.Ytnpfeemkichniaa.Hi
open Go Go.Proofs.YtnpfeemkichniaaPi Go.RowKit
set_option linter.unusedVariables false
set_option linter.unusedSimpArgs false
/-! ### base -/
theorem castsub {i : Nat} : ((i : Int)).toNat = i := by omega
theorem cs1 (i : Nat) : ((i : Int) + 1) = ((i + 1 : Nat) : Int) := by omega
abbrev Clu := Int × Int × Int
abbrev Clu.f0 (v : Clu) : Int := v.1
abbrev Clu.f1 (v : Clu) : Int := v.2.1
abbrev Clu.f2 (v : Clu) : Int := v.2.2
abbrev Sna := Int × Int
abbrev Sna.f0 (v : Sna) : Int := v.1
abbrev Sna.f1 (v : Sna) : Int := v.2
/-! ### base_bits -/
theorem u64w_eq (n : Int) : IntKind.u64.wrap n = n % 18446744073709551616 := by simp [IntKind.wrap, IntKind.bits, IntKind.signed]
theorem u64w (n : Int) : 0 ≤ IntKind.u64.wrap n ∧ IntKind.u64.wrap n < 18446744073709551616 := by
  rw [u64w_eq]
  omega
theorem and255 {x : Int} (h0 : 0 ≤ x) (h1 : x < 18446744073709551616) : Go.bits .and .u64 x 255 = x % 256 := by
  have e : (2 : Int) ^ 64 = 18446744073709551616 := by decide
  have h := bits_mask .u64 64 (by decide) (fun n h₀ h₁ => by
    rw [u64w_eq]
    rw [e] at h₁
    omega) 8 (by decide) x h0 (by rw [e]; exact h1)
  exact h
theorem u8_wf' {a : Int} (h : (Lit.int .u8 a).wf = true) : 0 ≤ a ∧ a ≤ 255 := by
  have h' := h
  simp only [Lit.wf, Bool.and_eq_true, decide_eq_true_eq] at h'
  have e1 : IntKind.u8.min = 0 := by decide
  have e2 : IntKind.u8.max = 255 := by decide
  rw [e1, e2] at h'
  exact h'
/-! ### spec_l1Cur_next -/
def AllBytes (s : List Int) : Prop := ∀ x ∈ s, 0 ≤ x ∧ x ≤ 255
theorem rd_byte {s : List Int} (hs : AllBytes s) (i : Int) : 0 ≤ rd 0 s i ∧ rd 0 s i ≤ 255 := by
  unfold rd
  rw [List.getD_eq_getElem?_getD]
  cases h : s[i.toNat]? with
  | none => simp
  | some x => exact hs x (List.mem_of_getElem? h)
theorem low_byte (n : Int) : 0 ≤ wrap64 (Go.bits .and .u64 (ishr (IntKind.u64.wrap n) 40) 255) ∧ wrap64 (Go.bits .and .u64 (ishr (IntKind.u64.wrap n) 40) 255) ≤ 255 := by
  have h := u64w n
  have e : ishr (IntKind.u64.wrap n) 40 = (IntKind.u64.wrap n) / 1099511627776 := by
    show Int.fdiv (IntKind.u64.wrap n) (2 ^ (40 : Int).toNat) = _
    rw [show (2 : Int) ^ (40 : Int).toNat = 1099511627776 from by decide, Int.fdiv_eq_ediv_of_nonneg _ (by omega)]
  rw [e, and255 (by omega) (by omega), w64 (by omega) (by omega)]
  omega
/-- A cursor's function gives a value and goes on, by so much at the most. -/
def Goes {α : Type} (s : List Int) (a n : Int) (x : Option (α × List Int × Int × Int)) (P : α → Prop) : Prop := ∃ v a' e, x = some (v, s, a', e) ∧ a ≤ a' ∧ a' ≤ a + n ∧ P v
theorem Goes.bind {α β : Type} {s : List Int} {a n m : Int} {x : Option (α × List Int × Int × Int)} {P : α → Prop} {f : α × List Int × Int × Int → Option (β × List Int × Int × Int)} {Q : β → Prop} (h : Goes s a n x P)
    (k : ∀ v a' e, a ≤ a' → a' ≤ a + n → P v → Goes s a' m (f (v, s, a', e)) Q) : Goes s a (n + m) (x.bind f) Q := by
  obtain ⟨v, a', e, rfl, h1, h2, h3⟩ := h
  obtain ⟨u, b, g, h4, h5, h6, h7⟩ := k v a' e h1 h2 h3
  exact ⟨u, b, g, h4, by omega, by omega, h7⟩
theorem Goes.step {α β : Type} {s : List Int} {a n m l : Int} {x : Option (α × List Int × Int × Int)} {P : α → Prop} {f : α × List Int × Int × Int → Option (β × List Int × Int × Int)} {Q : β → Prop} (h : Goes s a n x P) (hl : n + m ≤ l)
    (k : ∀ v a' e, a ≤ a' → a' ≤ a + n → P v → Goes s a' m (f (v, s, a', e)) Q) : Goes s a l (x.bind f) Q := by
  obtain ⟨u, b, g, h4, h5, h6, h7⟩ := h.bind k
  exact ⟨u, b, g, h4, h5, by omega, h7⟩
theorem Goes.now {α : Type} {s : List Int} {a e : Int} {v : α} {P : α → Prop} (h : P v) : Goes s a 0 (some (v, s, a, e)) P := ⟨v, a, e, rfl, by omega, by omega, h⟩
theorem Goes.le {α : Type} {s : List Int} {a n m : Int} {x : Option (α × List Int × Int × Int)} {P Q : α → Prop} (h : Goes s a n x P) (hn : n ≤ m) (hP : ∀ v, P v → Q v) : Goes s a m x Q := by
  obtain ⟨v, a', e, h0, h1, h2, h3⟩ := h
  exact ⟨v, a', e, h0, h1, by omega, hP v h3⟩
theorem Goes.ite {α : Type} {s : List Int} {a n : Int} {c : Prop} [Decidable c] {x y : Option (α × List Int × Int × Int)} {P : α → Prop} (h : c → Goes s a n x P) (k : ¬ c → Goes s a n y P) : Goes s a n (if c then x else y) P := by
  by_cases hc : c
  · rw [if_pos hc]; exact h hc
  · rw [if_neg hc]; exact k hc
theorem spec_l1Cur_next_some {s : List Int} (hs : AllBytes s) {a : Int} (d : Int) (h0 : 0 ≤ a) (h1 : a ≤ 1000000000000) : Goes s a 1 (spec_l1Cur_next.f s a d) fun v => 0 ≤ v ∧ v ≤ 255 := by
  have hb := rd_byte hs a
  unfold spec_l1Cur_next.f
  rw [w64 (x := a + 1) (by omega) (by omega), w64 (x := rd 0 s a) (by omega) (by omega)]
  refine Goes.ite (fun c => ?_) (fun c => ?_)
  · rw [if_pos h0, if_pos (of_decide_eq_true c)]
    refine Goes.ite (fun c => ?_) (fun c => ?_)
    · exact ⟨_, _, _, rfl, by omega, by omega, hb⟩
    · exact ⟨_, _, _, rfl, by omega, by omega, low_byte _⟩
  · refine Goes.ite (fun c => ?_) (fun c => ?_)
    · exact ⟨_, _, _, rfl, by omega, by omega, by omega⟩
    · exact ⟨_, _, _, rfl, by omega, by omega, low_byte _⟩
/-! ### spec_l1Cur_pick -/
theorem tmod_bd {a n : Int} (ha : 0 ≤ a) (hn : 0 < n) : 0 ≤ Int.tmod a n ∧ Int.tmod a n < n := by
  rw [Int.tmod_eq_emod_of_nonneg ha]
  exact ⟨Int.emod_nonneg _ (by omega), Int.emod_lt_of_pos _ hn⟩
theorem spec_l1Cur_pick_some {s : List Int} (hs : AllBytes s) {a : Int} (d : Int) (n : Int) (h0 : 0 ≤ a) (h1 : a ≤ 1000000000) : Goes s a 2 (spec_l1Cur_pick.f s a d n) fun v => 0 ≤ v ∧ (1 ≤ n → v < n) ∧ (n ≤ 1 → v = 0) := by
  unfold spec_l1Cur_pick.f spec_l1Cur_pick.b
  refine Goes.ite (fun hn => ?_) (fun hn => ?_)
  · have hn := of_decide_eq_true hn
    exact ⟨_, _, _, rfl, by omega, by omega, by omega, fun _ => by omega, fun _ => rfl⟩
  · have hn : ¬ n ≤ 1 := fun h => hn (decide_eq_true h)
    refine Goes.bind (n := 1) (m := 1) (spec_l1Cur_next_some hs d h0 (by omega)) fun v a' e g1 g2 hv => ?_
    refine Goes.ite (fun hb => ?_) (fun hb => ?_)
    · refine Goes.le (Goes.bind (n := 1) (m := 0) (spec_l1Cur_next_some hs e (by omega) (by omega)) fun v' b f _ _ hv' => ?_) (by omega) (fun v h => h)
      simp only [if_neg (show ¬ n = 0 by omega)]
      have := tmod_bd (a := wrap64 (wrap64 (v * 256) + v')) (n := n) (by rw [w64 (x := v * 256) (by omega) (by omega), w64 (by omega) (by omega)]; omega) (by omega)
      exact Goes.now ⟨this.1, fun _ => this.2, fun h => absurd h hn⟩
    · simp only [if_neg (show ¬ n = 0 by omega)]
      have := tmod_bd (a := v) (n := n) hv.1 (by omega)
      exact Goes.le (Goes.now ⟨this.1, fun _ => this.2, fun h => absurd h hn⟩) (by omega) (fun v h => h)
/-- A number below n. -/
theorem pick_lt {s : List Int} (hs : AllBytes s) {a : Int} (d : Int) {n : Int} (hn : 1 ≤ n) (h0 : 0 ≤ a) (h1 : a ≤ 1000000000) : Goes s a 2 (spec_l1Cur_pick.f s a d n) fun v => 0 ≤ v ∧ v < n :=
  (spec_l1Cur_pick_some hs d n h0 h1).le (by omega) fun v h => ⟨h.1, h.2.1 hn⟩
/-! ### spec_l1Cur_one -/
theorem spec_l1Cur_one_some {s : List Int} (hs : AllBytes s) {a : Int} (d : Int) (n : Int) (h0 : 0 ≤ a) (h1 : a ≤ 1000000000) : Goes s a 2 (spec_l1Cur_one.f s a d n) fun _ => True := by
  unfold spec_l1Cur_one.f spec_l1Cur_one.b
  exact Goes.step (n := 2) (m := 0) (spec_l1Cur_pick_some hs d n h0 h1) (by omega) fun v a' e _ _ _ => Goes.now trivial
/-! ### spec_l1Cur_among -/
theorem spec_l1Cur_among_some {s : List Int} (hs : AllBytes s) {a : Int} (d : Int) {l : List Int} (hl : 1 ≤ l.length) (h0 : 0 ≤ a) (h1 : a ≤ 1000000000) : Goes s a 2 (spec_l1Cur_among.f s a d l) fun v => v ∈ l := by
  unfold spec_l1Cur_among.f spec_l1Cur_among.b
  refine (Goes.bind (n := 2) (m := 0) (pick_lt hs d (n := dlen l) (by simp only [dlen]; omega) h0 h1) fun v a' e _ _ hv => ?_).le (by omega) fun _ h => h
  simp only [if_pos hv.1, if_pos hv.2]
  refine Goes.now ?_
  unfold rd
  rw [List.getD_eq_getElem?_getD, List.getElem?_eq_getElem (by simp only [dlen] at hv; omega)]
  exact List.getElem_mem _
/-! ### spec_l1Cur_snail -/
theorem spec_l1Cur_sureSnail_some {s : List Int} (hs : AllBytes s) {a : Int} (d : Int) (h0 : 0 ≤ a) (h1 : a ≤ 100000000) : Goes s a 6 (spec_l1Cur_sureSnail.f s a d) fun _ => True := by
  unfold spec_l1Cur_sureSnail.f spec_l1Cur_sureSnail.b
  refine Goes.step (n := 2) (m := 4) (spec_l1Cur_one_some hs d 6 h0 (by omega)) (by omega) fun v a1 e _ _ _ => ?_
  refine Goes.ite (fun _ => ?_) (fun _ => ?_)
  · refine Goes.step (n := 2) (m := 2) (spec_l1Cur_among_some hs e (by simp) (by omega) (by omega)) (by omega) fun v a2 e _ _ _ => ?_
    exact Goes.step (n := 2) (m := 0) (spec_l1Cur_among_some hs e (by simp) (by omega) (by omega)) (by omega) fun v a3 e _ _ _ => Goes.now trivial
  · refine Goes.step (n := 2) (m := 2) (spec_l1Cur_pick_some hs e 9 (by omega) (by omega)) (by omega) fun v a2 e _ _ _ => ?_
    exact Goes.step (n := 2) (m := 0) (spec_l1Cur_pick_some hs e _ (by omega) (by omega)) (by omega) fun v a3 e _ _ _ => Goes.now trivial
theorem spec_l1Cur_snail_some {s : List Int} (hs : AllBytes s) {a : Int} (d : Int) (h0 : 0 ≤ a) (h1 : a ≤ 10000000) : Goes s a 8 (spec_l1Cur_snail.f s a d) fun _ => True := by
  unfold spec_l1Cur_snail.f spec_l1Cur_snail.b
  refine Goes.step (n := 2) (m := 6) (spec_l1Cur_one_some hs d 14 h0 (by omega)) (by omega) fun v a1 e _ _ _ => ?_
  refine Goes.ite (fun _ => ?_) (fun _ => ?_)
  · refine Goes.step (n := 2) (m := 2) (spec_l1Cur_among_some hs e (by simp) (by omega) (by omega)) (by omega) fun v a2 e _ _ _ => ?_
    exact Goes.step (n := 2) (m := 0) (spec_l1Cur_among_some hs e (by simp) (by omega) (by omega)) (by omega) fun v a3 e _ _ _ => Goes.now trivial
  · exact Goes.step (n := 6) (m := 0) (spec_l1Cur_sureSnail_some hs e (by omega) (by omega)) (by omega) fun v a3 e _ _ _ => Goes.now trivial
/-! ### spec_pzClue0 -/
/-- Whether three numbers are a clue. -/
def clueOk (kind a b : Int) : Bool :=
  if kind = 0 then decide ((1 ≤ a ∧ a ≤ 100) ∧ 0 ≤ b ∧ b ≤ 100) else if kind = 1 then decide ((1 ≤ a ∧ a ≤ 100) ∧ 1 ≤ b ∧ b ≤ 100) else if kind = 2 then decide (a = 0 ∧ 0 ≤ b ∧ b ≤ 24)
  else if kind = 3 then decide ((2 ≤ a ∧ a ≤ 9) ∧ 0 ≤ b ∧ b ≤ 1) else decide (kind = 4 ∧ a = 0 ∧ -12 ≤ b ∧ b ≤ 12)
theorem clue_and (p q : Prop) [Decidable p] [Decidable q] : (if p then some (decide q) else some false) = some (decide (p ∧ q)) := by
  by_cases hp : p <;> simp [hp]
/-! ### base_told -/
def hidOk (up dn : Int) : Prop := (1 ≤ up ∧ up ≤ 12) ∧ 0 ≤ dn ∧ dn ≤ 12
instance (up dn : Int) : Decidable (hidOk up dn) := by unfold hidOk; infer_instance
/-- A clue's number is in its range. -/
def aOk (kind a : Int) : Prop := ((kind = 0 ∨ kind = 1) → 1 ≤ a ∧ a ≤ 100) ∧ (kind = 3 → 2 ≤ a ∧ a ≤ 9)
theorem aOk_of {kind a b : Int} (h : clueOk kind a b = true) : aOk kind a := by
  unfold clueOk at h
  unfold aOk
  split at h
  · have := of_decide_eq_true h; omega
  · split at h
    · have := of_decide_eq_true h; omega
    · split at h
      · omega
      · split at h
        · have := of_decide_eq_true h; omega
        · omega
/-- What a clue of a kind, with a number, tells of a snail. -/
def told (kind a up dn : Int) : Int :=
  if kind = 0 then (if a ≤ up then 1 else if up ≤ dn then 0 else 1 + Int.tdiv (a - up + (up - dn) - 1) (up - dn))
  else if kind = 1 then min 100 (if up ≤ dn then up else up + (a - 1) * (up - dn))
  else if kind = 2 then up + dn
  else if kind = 3 then (if Int.tmod up a = 0 then 1 else 0)
  else up - dn
theorem day_bd {a up dn : Int} (h : hidOk up dn) (ha : 1 ≤ a ∧ a ≤ 100) : -1000 ≤ Int.tdiv (a - up + (up - dn) - 1) (up - dn) ∧ Int.tdiv (a - up + (up - dn) - 1) (up - dn) ≤ 1000 := by
  unfold hidOk at h
  have h1 : Int.natAbs (Int.tdiv (a - up + (up - dn) - 1) (up - dn)) ≤ Int.natAbs (a - up + (up - dn) - 1) := by
    rw [Int.natAbs_tdiv]; exact Nat.div_le_self _ _
  omega
/-! ### spec_l1Cur_hidden -/
theorem spec_l1Cur_hidden_some {s : List Int} (hs : AllBytes s) {a : Int} (d : Int) (h0 : 0 ≤ a) (h1 : a ≤ 10000000) : Goes s a 4 (spec_l1Cur_hidden.f s a d) fun v => hidOk v.1 v.2 := by
  unfold spec_l1Cur_hidden.f spec_l1Cur_hidden.b
  refine Goes.step (n := 2) (m := 2) (pick_lt hs d (n := 12) (by omega) h0 (by omega)) (by omega) fun v a1 e _ _ hv => ?_
  refine Goes.step (n := 2) (m := 0) (pick_lt hs e (n := 13) (by omega) (by omega) (by omega)) (by omega) fun u a2 e _ _ hu => ?_
  refine Goes.now ?_
  show hidOk (wrap64 (1 + v)) u
  rw [w64 (by omega) (by omega)]
  unfold hidOk
  omega
/-! ### spec_DrawMakePuzzle -/
theorem Goes.done {α β : Type} {s : List Int} {a n : Int} {x : Option (α × List Int × Int × Int)} {P : α → Prop} (h : Goes s a n x P) {f : α × List Int × Int × Int → Option β} (k : ∀ v a' e, a ≤ a' → a' ≤ a + n → P v → ∃ r, f (v, s, a', e) = some r) : ∃ r, x.bind f = some r := by
  obtain ⟨v, a', e, rfl, h1, h2, h3⟩ := h
  exact k v a' e h1 h2 h3
theorem spec_DrawMakePuzzle_some {s : List Int} (hs : AllBytes s) : ∃ r, spec_DrawMakePuzzle.f s = some r := by
  unfold spec_DrawMakePuzzle.f spec_DrawMakePuzzle.b
  refine (spec_l1Cur_one_some hs 0 12 (by omega) (by omega)).done fun v a1 e _ _ _ => ?_
  dsimp only
  by_cases hv : v = true
  · simp only [if_pos hv]
    refine (spec_l1Cur_snail_some hs e (by omega) (by omega)).done fun v a2 e _ _ _ => ?_
    dsimp only
    refine (spec_l1Cur_among_some hs e (by simp) (by omega) (by omega)).done fun v a3 e _ _ _ => ?_
    dsimp only
    exact (spec_l1Cur_among_some hs e (by simp) (by omega) (by omega)).done fun v a3 e _ _ _ => ⟨_, rfl⟩
  · simp only [if_neg hv]
    refine (spec_l1Cur_hidden_some hs e (by omega) (by omega)).done fun v a2 e _ _ _ => ?_
    dsimp only
    refine (spec_l1Cur_pick_some hs e 7 (by omega) (by omega)).done fun v a3 e _ _ _ => ?_
    dsimp only
    exact (spec_l1Cur_pick_some hs e 10000 (by omega) (by omega)).done fun v a3 e _ _ _ => ⟨_, rfl⟩
/-! ### impl_within -/
theorem impl_within_eq (a b c : Int) : impl_within.f a b c = some (decide (b ≤ a ∧ a ≤ c)) := by
  simp only [impl_within.f, decide_eq_true_eq, Bool.not_eq_true', Bool.not_eq_false', beq_iff_eq, bne_iff_ne, ne_eq, beq_eq_false_iff_ne, bne_eq_false_iff_eq, decide_eq_false_iff_not, Option.bind_some, dlen, dlenN]
  split
  · exact congrArg some (dec_e (by omega))
  · rw [dec_f (by omega)]
/-! ### impl_isHidden -/
theorem impl_isHidden_eq (a b : Int) : impl_isHidden.f a b = some (decide (hidOk a b)) := by
  simp only [impl_isHidden.b, impl_isHidden.f, impl_within_eq, decide_eq_true_eq, Bool.not_eq_true', Bool.not_eq_false', beq_iff_eq, bne_iff_ne, ne_eq, beq_eq_false_iff_ne, bne_eq_false_iff_eq, decide_eq_false_iff_not, Option.bind_some, dlen, dlenN]
  by_cases h : 1 ≤ a ∧ a ≤ 12
  · rw [if_pos h]
    exact congrArg some (dec_e (by unfold hidOk; omega))
  · rw [if_neg h, dec_f (by unfold hidOk; omega)]
/-! ### impl_toldBy -/
theorem impl_toldBy_eq {kind a b up dn : Int} (h : hidOk up dn) (ha : aOk kind a) : impl_toldBy.f kind a b up dn = some (told kind a up dn) := by
  have h' := h
  unfold hidOk at h'
  unfold aOk at ha
  unfold told
  simp only [impl_toldBy.b, impl_toldBy.f, decide_eq_true_eq, Bool.not_eq_true', Bool.not_eq_false', beq_iff_eq, bne_iff_ne, ne_eq, beq_eq_false_iff_ne, bne_eq_false_iff_eq, decide_eq_false_iff_not, Option.bind_some, dlen, dlenN]
  by_cases k0 : kind = 0
  · have ha0 := ha.1 (.inl k0)
    have hd := day_bd h ha0
    simp only [if_pos k0, impl_dayOfHeight.f, decide_eq_true_eq, Bool.not_eq_true', Bool.not_eq_false', beq_iff_eq, bne_iff_ne, ne_eq, beq_eq_false_iff_ne, bne_eq_false_iff_eq, decide_eq_false_iff_not, Option.bind_some, dlen, dlenN]
    by_cases c1 : a ≤ up
    · simp only [if_pos c1, Option.bind_some]
    · by_cases c2 : up ≤ dn
      · simp only [if_neg c1, if_pos c2, Option.bind_some]
      · simp (disch := omega) only [if_neg c1, if_neg c2, w64, if_neg (show ¬ up - dn = 0 by omega), Option.bind_some]
  · by_cases k1 : kind = 1
    · have ha0 := ha.1 (.inr k1)
      simp only [if_neg k0, if_pos k1, impl_eveningHeight.b, impl_eveningHeight.f, impl_reachOf.f, decide_eq_true_eq, Bool.not_eq_true', Bool.not_eq_false', beq_iff_eq, bne_iff_ne, ne_eq, beq_eq_false_iff_ne, bne_eq_false_iff_eq, decide_eq_false_iff_not, Option.bind_some, dlen, dlenN, mx_eq, mn_eq]
      have m1 := mulb (a := a - 1) (b := max 0 (up - dn)) (A := 100) (B := 12) (by omega) (by omega) (by omega) (by omega)
      rw [w64 (x := up - dn) (by omega) (by omega), w64 (x := a - 1) (by omega) (by omega), Int.mul_comm (max 0 (up - dn)), w64 (x := (a - 1) * max 0 (up - dn)) (by omega) (by omega), w64 (by omega) (by omega)]
      by_cases c2 : up ≤ dn
      · rw [if_pos c2, show max 0 (up - dn) = 0 by omega, Int.mul_zero, Int.add_zero]
      · rw [if_neg c2, show max 0 (up - dn) = up - dn by omega]
    · by_cases k2 : kind = 2
      · simp (disch := omega) only [if_neg k0, if_neg k1, if_pos k2, w64]
      · by_cases k3 : kind = 3
        · have ha3 := ha.2 k3
          simp only [if_neg k0, if_neg k1, if_neg k2, if_pos k3, if_neg (show ¬ a = 0 by omega)]
          by_cases c : Int.tmod up a = 0
          · simp only [if_pos c]
          · simp only [if_neg c]
        · simp (disch := omega) only [if_neg k0, if_neg k1, if_neg k2, if_neg k3, w64]
/-! ### base_make -/
/-- The next number of the row that makes puzzles. -/
def nxt (z : Int) : Int := Int.tmod (227 * z + 2027) 10007
theorem nxt_bd {z : Int} (h0 : 0 ≤ z) : 0 ≤ nxt z ∧ nxt z ≤ 10006 := by
  unfold nxt
  rw [Int.tmod_eq_emod_of_nonneg (by omega)]
  omega
def mkA (kind t : Int) : Int := if kind = 0 ∨ kind = 1 then Int.tmod t 100 + 1 else if kind = 3 then Int.tmod t 8 + 2 else 0
theorem tm_bd {t : Int} (h : 0 ≤ t) : (0 ≤ Int.tmod t 100 ∧ Int.tmod t 100 ≤ 99) ∧ (0 ≤ Int.tmod t 8 ∧ Int.tmod t 8 ≤ 7) ∧ 0 ≤ Int.tmod t 5 ∧ Int.tmod t 5 ≤ 4 := by
  rw [Int.tmod_eq_emod_of_nonneg h, Int.tmod_eq_emod_of_nonneg h, Int.tmod_eq_emod_of_nonneg h]
  omega
theorem mkA_ok {kind t : Int} (h : 0 ≤ t) : aOk kind (mkA kind t) := by
  have := tm_bd h
  unfold aOk mkA
  constructor
  · intro hk
    rw [if_pos hk]; omega
  · intro hk
    rw [if_neg (by omega), if_pos hk]; omega
def mkC (up dn z : Int) : Clu := ⟨Int.tmod (nxt z) 5, mkA (Int.tmod (nxt z) 5) (nxt (nxt z)), told (Int.tmod (nxt z) 5) (mkA (Int.tmod (nxt z) 5) (nxt (nxt z))) up dn⟩
def mkL (up dn : Int) : Nat → Int → List Clu
  | 0, _ => []
  | n + 1, z => mkC up dn z :: mkL up dn n (nxt (nxt z))
theorem mkL_len (up dn : Int) (n : Nat) : ∀ z, (mkL up dn n z).length = n := by
  induction n with
  | zero => intro z; rfl
  | succ n ih => intro z; simp [mkL, ih]
def makeSays (up dn n z : Int) : List Clu × Bool := if hidOk up dn ∧ (0 ≤ n ∧ n ≤ 6) ∧ 0 ≤ z ∧ z ≤ 9999 then (mkL up dn n.toNat z, true) else ([], false)
theorem makeSays_len (up dn n z : Int) : (makeSays up dn n z).1.length ≤ 6 := by
  unfold makeSays
  split
  · simp only [mkL_len]; omega
  · simp
/-! ### impl_MakePuzzle -/
theorem impl_nxt {z : Int} (h0 : 0 ≤ z) (h1 : z ≤ 10006) : Int.tmod (wrap64 ((wrap64 (z * 227)) + 2027)) 10007 = nxt z := by
  rw [w64 (x := z * 227) (by omega) (by omega), w64 (by omega) (by omega), nxt, Int.mul_comm]
theorem impl_MakePuzzle_loop {up dn n : Int} (h : hidOk up dn) (hn : n ≤ 6) (d : Nat) : ∀ (i : Nat) (z : Int) (acc : List Clu), (i : Int) + d = n → acc.length = i → 0 ≤ z → z ≤ 10006 →
    Ev (fun k => impl_MakePuzzle.l0 k z n (i : Int) up dn acc) (acc ++ mkL up dn d z, true) := by
  induction d with
  | zero =>
    intro i z acc hi hl h0 h1
    refine ev_s ?_
    simp only [impl_MakePuzzle.b0, impl_MakePuzzle.l0, decide_eq_true_eq, Bool.not_eq_true', Bool.not_eq_false', beq_iff_eq, bne_iff_ne, ne_eq, beq_eq_false_iff_ne, bne_eq_false_iff_eq, decide_eq_false_iff_not, Option.bind_some, dlen, dlenN, if_neg (show ¬ ((i : Int) < n) by omega)]
    exact ev_now (by simp [mkL])
  | succ d ih =>
    intro i z acc hi hl h0 h1
    have b1 := nxt_bd h0
    have b2 := nxt_bd b1.1
    have hr := ih (i + 1) (nxt (nxt z)) (acc ++ [mkC up dn z]) (by omega) (by simp; omega) b2.1 b2.2
    have hb := tm_bd b2.1
    have ha := mkA_ok (kind := Int.tmod (nxt z) 5) b2.1
    have fin : Ev (fun k => impl_MakePuzzle.l0 k (nxt (nxt z)) n ((i + 1 : Nat) : Int) up dn (acc ++ [((Int.tmod (nxt z) 5, mkA (Int.tmod (nxt z) 5) (nxt (nxt z)), told (Int.tmod (nxt z) 5) (mkA (Int.tmod (nxt z) 5) (nxt (nxt z))) up dn) : Clu)])) (acc ++ mkL up dn (d + 1) z, true) := by
      rw [mkL, show acc ++ mkC up dn z :: mkL up dn d (nxt (nxt z)) = acc ++ [mkC up dn z] ++ mkL up dn d (nxt (nxt z)) by simp]
      exact hr
    refine ev_s ?_
    simp only [impl_MakePuzzle.b0, impl_MakePuzzle.l0, decide_eq_true_eq, Bool.not_eq_true', Bool.not_eq_false', beq_iff_eq, bne_iff_ne, ne_eq, beq_eq_false_iff_ne, bne_eq_false_iff_eq, decide_eq_false_iff_not, Option.bind_some, dlen, dlenN, if_pos (show ((i : Int) < n) by omega), impl_nxt h0 h1, impl_nxt b1.1 b1.2]
    generalize hkd : Int.tmod (nxt z) 5 = kind at *
    have hlen : acc.length + 1 ≤ 5864062014805 := by omega
    by_cases c0 : kind = 0
    · have e : mkA kind (nxt (nxt z)) = Int.tmod (nxt (nxt z)) 100 + 1 := if_pos (.inl c0)
      rw [e] at ha fin
      simp (disch := omega) only [if_pos c0, w64, impl_toldBy_eq h ha, Option.bind_some, if_pos hlen, cs1]
      exact fin
    · by_cases c1 : kind = 1
      · have e : mkA kind (nxt (nxt z)) = Int.tmod (nxt (nxt z)) 100 + 1 := if_pos (.inr c1)
        rw [e] at ha fin
        simp (disch := omega) only [if_neg c0, if_pos c1, w64, impl_toldBy_eq h ha, Option.bind_some, if_pos hlen, cs1]
        exact fin
      · by_cases c3 : kind = 3
        · have e : mkA kind (nxt (nxt z)) = Int.tmod (nxt (nxt z)) 8 + 2 := by rw [mkA, if_neg (by omega), if_pos c3]
          rw [e] at ha fin
          simp (disch := omega) only [if_neg c0, if_neg c1, if_pos c3, w64, impl_toldBy_eq h ha, Option.bind_some, if_pos hlen, cs1]
          exact fin
        · have e : mkA kind (nxt (nxt z)) = 0 := by rw [mkA, if_neg (by omega), if_neg c3]
          rw [e] at ha fin
          simp (disch := omega) only [if_neg c0, if_neg c1, if_neg c3, w64, impl_toldBy_eq h ha, Option.bind_some, if_pos hlen, cs1]
          exact fin
theorem impl_MakePuzzle_eq (up dn n z : Int) : Ev (fun k => impl_MakePuzzle.f k up dn n z) (makeSays up dn n z) := by
  simp only [impl_MakePuzzle.b, impl_MakePuzzle.f, impl_isHidden_eq, impl_within_eq, decide_eq_true_eq, Bool.not_eq_true', Bool.not_eq_false', beq_iff_eq, bne_iff_ne, ne_eq, beq_eq_false_iff_ne, bne_eq_false_iff_eq, decide_eq_false_iff_not, Option.bind_some, dlen, dlenN]
  by_cases h : hidOk up dn
  · simp only [if_neg (show ¬ ¬ hidOk up dn from fun q => q h)]
    by_cases hn : 0 ≤ n ∧ n ≤ 6
    · simp only [if_neg (show ¬ ¬ (0 ≤ n ∧ n ≤ 6) from fun q => q hn)]
      by_cases hz : 0 ≤ z ∧ z ≤ 9999
      · simp only [if_neg (show ¬ ¬ (0 ≤ z ∧ z ≤ 9999) from fun q => q hz)]
        rw [makeSays, if_pos ⟨h, hn, hz⟩]
        have := impl_MakePuzzle_loop (n := n) h hn.2 n.toNat 0 z [] (by omega) rfl hz.1 (by omega)
        simpa using this
      · simp only [if_pos hz]
        rw [makeSays, if_neg (by omega)]
        exact Ev.now _
    · simp only [if_pos hn]
      rw [makeSays, if_neg (by omega)]
      exact Ev.now _
  · simp only [if_pos h]
    rw [makeSays, if_neg (fun h' => h h'.1)]
    exact Ev.now _
/-! ### spec_l1In -/
theorem spec_l1In_eq (a b c : Int) : spec_l1In.f a b c = some (decide (b ≤ a ∧ a ≤ c)) := by
  simp only [spec_l1In.f, decide_eq_true_eq, Bool.not_eq_true', Bool.not_eq_false', beq_iff_eq, bne_iff_ne, ne_eq, beq_eq_false_iff_ne, bne_eq_false_iff_eq, decide_eq_false_iff_not, Option.bind_some, dlen, dlenN]
  split
  · exact congrArg some (dec_e (by omega))
  · rw [dec_f (by omega)]
/-! ### spec_snGood -/
theorem spec_snGood_eq (a b : Int) : spec_snGood.f a b = some (decide ((1 ≤ a ∧ a ≤ 1000) ∧ 0 ≤ b ∧ b ≤ 1000)) := by
  simp only [spec_snGood.b, spec_snGood.f, spec_l1In_eq, decide_eq_true_eq, Bool.not_eq_true', Bool.not_eq_false', beq_iff_eq, bne_iff_ne, ne_eq, beq_eq_false_iff_ne, bne_eq_false_iff_eq, decide_eq_false_iff_not, Option.bind_some, dlen, dlenN]
  by_cases h : 1 ≤ a ∧ a ≤ 1000
  · rw [if_pos h]
    exact congrArg some (dec_e (by omega))
  · rw [if_neg h, dec_f (by omega)]
/-! ### spec_pzHidden -/
theorem spec_pzHidden_eq (a b : Int) : spec_pzHidden.f a b = some (decide (hidOk a b)) := by
  simp only [spec_pzHidden.b, spec_pzHidden.f, spec_snGood_eq, decide_eq_true_eq, Bool.not_eq_true', Bool.not_eq_false', beq_iff_eq, bne_iff_ne, ne_eq, beq_eq_false_iff_ne, bne_eq_false_iff_eq, decide_eq_false_iff_not, Option.bind_some, dlen, dlenN]
  by_cases h : (1 ≤ a ∧ a ≤ 1000) ∧ 0 ≤ b ∧ b ≤ 1000
  · rw [if_pos h]
    by_cases h2 : a ≤ 12
    · rw [if_pos h2]
      exact congrArg some (dec_e (by unfold hidOk; omega))
    · rw [if_neg h2, dec_f (by unfold hidOk; omega)]
  · rw [if_neg h, dec_f (by unfold hidOk; omega)]
/-! ### spec_pzNext -/
theorem spec_pzNext_eq {z : Int} (h0 : 0 ≤ z) (h1 : z ≤ 10006) : spec_pzNext.f z = some (nxt z) := by
  simp only [spec_pzNext.f, nxt]
  rw [w64 (x := 227 * z) (by omega) (by omega), w64 (by omega) (by omega)]
/-! ### spec_l1Least -/
theorem spec_l1Least_eq (a b : Int) : spec_l1Least.f a b = some (min a b) := by
  simp only [spec_l1Least.f, decide_eq_true_eq, Bool.not_eq_true', Bool.not_eq_false', beq_iff_eq, bne_iff_ne, ne_eq, beq_eq_false_iff_ne, bne_eq_false_iff_eq, decide_eq_false_iff_not, Option.bind_some, dlen, dlenN]
  split <;> exact congrArg some (by omega)
/-! ### spec_pzValue -/
theorem spec_pzValue_eq {kind a up dn : Int} (h : hidOk up dn) (ha : aOk kind a) : spec_pzValue.f kind a up dn = some (told kind a up dn) := by
  have h' := h
  unfold hidOk at h'
  unfold aOk at ha
  unfold told
  simp only [spec_pzValue.b, spec_pzValue.f, decide_eq_true_eq, Bool.not_eq_true', Bool.not_eq_false', beq_iff_eq, bne_iff_ne, ne_eq, beq_eq_false_iff_ne, bne_eq_false_iff_eq, decide_eq_false_iff_not, Option.bind_some, dlen, dlenN]
  by_cases k0 : kind = 0
  · have ha0 := ha.1 (.inl k0)
    have hd := day_bd h ha0
    simp only [if_pos k0, spec_snCan.f, spec_snDays.f, decide_eq_true_eq, Bool.not_eq_true', Bool.not_eq_false', beq_iff_eq, bne_iff_ne, ne_eq, beq_eq_false_iff_ne, bne_eq_false_iff_eq, decide_eq_false_iff_not, Option.bind_some, dlen, dlenN]
    by_cases c1 : a ≤ up
    · simp only [if_pos (show up ≥ a from c1), if_pos c1, Option.bind_some, decide_eq_true_eq, Bool.not_eq_true', Bool.not_eq_false', beq_iff_eq, bne_iff_ne, ne_eq, beq_eq_false_iff_ne, bne_eq_false_iff_eq, decide_eq_false_iff_not, Option.bind_some, dlen, dlenN, reduceCtorEq, if_false, decide_true, if_true]
    · by_cases c2 : up ≤ dn
      · simp only [if_neg (show ¬ up ≥ a from c1), if_neg c1, if_pos c2, Option.bind_some, decide_eq_true_eq, Bool.not_eq_true', Bool.not_eq_false', beq_iff_eq, bne_iff_ne, ne_eq, beq_eq_false_iff_ne, bne_eq_false_iff_eq, decide_eq_false_iff_not, Option.bind_some, dlen, dlenN, if_pos (show ¬ up > dn by omega)]
      · simp (disch := omega) only [if_neg (show ¬ up ≥ a from c1), if_neg c1, if_neg c2, Option.bind_some, decide_eq_true_eq, Bool.not_eq_true', Bool.not_eq_false', beq_iff_eq, bne_iff_ne, ne_eq, beq_eq_false_iff_ne, bne_eq_false_iff_eq, decide_eq_false_iff_not, Option.bind_some, dlen, dlenN, if_neg (show ¬ ¬ up > dn by omega), w64, if_neg (show ¬ up - dn = 0 by omega)]
  · by_cases k1 : kind = 1
    · have ha0 := ha.1 (.inr k1)
      simp only [if_neg k0, if_pos k1, spec_snEvening.f, decide_eq_true_eq, Bool.not_eq_true', Bool.not_eq_false', beq_iff_eq, bne_iff_ne, ne_eq, beq_eq_false_iff_ne, bne_eq_false_iff_eq, decide_eq_false_iff_not, Option.bind_some, dlen, dlenN]
      by_cases c2 : up ≤ dn
      · simp only [if_pos (show dn ≥ up from c2), if_pos c2, Option.bind_some, spec_l1Least_eq]
      · have m1 := mulb (a := a - 1) (b := up - dn) (A := 100) (B := 12) (by omega) (by omega) (by omega) (by omega)
        simp (disch := omega) only [if_neg (show ¬ dn ≥ up from c2), if_neg c2, Option.bind_some, spec_l1Least_eq, w64]
    · by_cases k2 : kind = 2
      · simp (disch := omega) only [if_neg k0, if_neg k1, if_pos k2, w64]
      · by_cases k3 : kind = 3
        · have ha3 := ha.2 k3
          simp only [if_neg k0, if_neg k1, if_neg k2, if_pos k3, if_neg (show ¬ a = 0 by omega)]
          by_cases c : Int.tmod up a = 0
          · simp only [if_pos c]
          · simp only [if_neg c]
        · simp (disch := omega) only [if_neg k0, if_neg k1, if_neg k2, if_neg k3, w64]
/-! ### spec_pzOf -/
theorem spec_pzOf_eq {kind t up dn : Int} (h : hidOk up dn) (ht : 0 ≤ t) : spec_pzOf.f kind t up dn = some (kind, mkA kind t, told kind (mkA kind t) up dn) := by
  have hb := tm_bd ht
  have ha := mkA_ok (kind := kind) ht
  simp only [spec_pzOf.b, spec_pzOf.f, decide_eq_true_eq, Bool.not_eq_true', Bool.not_eq_false', beq_iff_eq, bne_iff_ne, ne_eq, beq_eq_false_iff_ne, bne_eq_false_iff_eq, decide_eq_false_iff_not, Option.bind_some, dlen, dlenN]
  by_cases c0 : kind = 0
  · have e : mkA kind t = Int.tmod t 100 + 1 := if_pos (.inl c0)
    rw [e] at ha ⊢
    simp (disch := omega) only [if_pos c0, w64, spec_pzValue_eq h ha, Option.bind_some]
  · by_cases c1 : kind = 1
    · have e : mkA kind t = Int.tmod t 100 + 1 := if_pos (.inr c1)
      rw [e] at ha ⊢
      simp (disch := omega) only [if_neg c0, if_pos c1, w64, spec_pzValue_eq h ha, Option.bind_some]
    · by_cases c3 : kind = 3
      · have e : mkA kind t = Int.tmod t 8 + 2 := by rw [mkA, if_neg (by omega), if_pos c3]
        rw [e] at ha ⊢
        simp (disch := omega) only [if_neg c0, if_neg c1, if_pos c3, w64, spec_pzValue_eq h ha, Option.bind_some]
      · have e : mkA kind t = 0 := by rw [mkA, if_neg (by omega), if_neg c3]
        rw [e] at ha ⊢
        simp only [if_neg c0, if_neg c1, if_neg c3, spec_pzValue_eq h ha, Option.bind_some]
/-! ### spec_MakePuzzle -/
theorem spec_MakePuzzle_loop {up dn : Int} (h : hidOk up dn) (n : Nat) : ∀ (z : Int) (acc : List Clu), n + acc.length ≤ 6 → 0 ≤ z → z ≤ 10006 →
    Ev (fun k => spec_MakePuzzle.l0 k (n : Int) z up dn acc) (acc ++ mkL up dn n z, true) := by
  induction n with
  | zero =>
    intro z acc hn h0 h1
    refine ev_s ?_
    simp only [spec_MakePuzzle.b0, spec_MakePuzzle.l0, decide_eq_true_eq, Bool.not_eq_true', Bool.not_eq_false', beq_iff_eq, bne_iff_ne, ne_eq, beq_eq_false_iff_ne, bne_eq_false_iff_eq, decide_eq_false_iff_not, Option.bind_some, dlen, dlenN, if_neg (show ¬ (((0 : Nat) : Int) > 0) by omega)]
    exact ev_now (by simp [mkL])
  | succ n ih =>
    intro z acc hn h0 h1
    have b1 := nxt_bd h0
    have b2 := nxt_bd b1.1
    have hr := ih (nxt (nxt z)) (acc ++ [mkC up dn z]) (by simp; omega) b2.1 b2.2
    refine ev_s ?_
    simp (disch := omega) only [spec_MakePuzzle.b0, spec_MakePuzzle.l0, decide_eq_true_eq, Bool.not_eq_true', Bool.not_eq_false', beq_iff_eq, bne_iff_ne, ne_eq, beq_eq_false_iff_ne, bne_eq_false_iff_eq, decide_eq_false_iff_not, Option.bind_some, dlen, dlenN, if_pos (show (((n + 1 : Nat) : Int) > 0) by omega), spec_pzNext_eq h0 h1, spec_pzNext_eq b1.1 b1.2, w64, spec_pzOf_eq h b2.1, if_pos (show acc.length + 1 ≤ 5864062014805 by omega), show ((n + 1 : Nat) : Int) - 1 = (n : Int) by omega]
    rw [mkL, show acc ++ mkC up dn z :: mkL up dn n (nxt (nxt z)) = acc ++ [mkC up dn z] ++ mkL up dn n (nxt (nxt z)) by simp]
    exact hr
theorem spec_MakePuzzle_eq (up dn n z : Int) : Ev (fun k => spec_MakePuzzle.f k up dn n z) (makeSays up dn n z) := by
  simp only [spec_MakePuzzle.b, spec_MakePuzzle.f, spec_pzHidden_eq, spec_l1In_eq, decide_eq_true_eq, Bool.not_eq_true', Bool.not_eq_false', beq_iff_eq, bne_iff_ne, ne_eq, beq_eq_false_iff_ne, bne_eq_false_iff_eq, decide_eq_false_iff_not, Option.bind_some, dlen, dlenN]
  by_cases h : hidOk up dn
  · simp only [if_neg (show ¬ ¬ hidOk up dn from fun q => q h)]
    by_cases hn : 0 ≤ n ∧ n ≤ 6
    · simp only [if_neg (show ¬ ¬ (0 ≤ n ∧ n ≤ 6) from fun q => q hn)]
      by_cases hz : 0 ≤ z ∧ z ≤ 9999
      · simp only [if_neg (show ¬ ¬ (0 ≤ z ∧ z ≤ 9999) from fun q => q hz)]
        rw [makeSays, if_pos ⟨h, hn, hz⟩]
        have := spec_MakePuzzle_loop h n.toNat z [] (by simp; omega) hz.1 (by omega)
        rw [show ((n.toNat : Nat) : Int) = n by omega] at this
        simpa using this
      · simp only [if_pos hz]
        rw [makeSays, if_neg (by omega)]
        exact Ev.now _
    · simp only [if_pos hn]
      rw [makeSays, if_neg (by omega)]
      exact Ev.now _
  · simp only [if_pos h]
    rw [makeSays, if_neg (fun h' => h h'.1)]
    exact Ev.now _
/-! ### laws_qClues -/
theorem laws_qClues_loop {l : List Clu} (hl : l.length ≤ 9223372036854775806) (d : Nat) : ∀ i : Nat, i + d = l.length → Ev (fun k => laws_qClues.l0 k l l (l.length : Int) (i : Int)) true := by
  induction d with
  | zero =>
    intro i hi
    refine ev_s ?_
    simp only [laws_qClues.b0, laws_qClues.l0, decide_eq_true_eq, Bool.not_eq_true', Bool.not_eq_false', beq_iff_eq, bne_iff_ne, ne_eq, beq_eq_false_iff_ne, bne_eq_false_iff_eq, decide_eq_false_iff_not, Option.bind_some, dlen, dlenN, if_neg (show ¬ (i : Int) < l.length by omega)]
    exact Ev.now _
  | succ d ih =>
    intro i hi
    refine ev_s ?_
    simp (disch := omega) only [laws_qClues.b0, laws_qClues.l0, decide_eq_true_eq, Bool.not_eq_true', Bool.not_eq_false', beq_iff_eq, bne_iff_ne, ne_eq, beq_eq_false_iff_ne, bne_eq_false_iff_eq, decide_eq_false_iff_not, Option.bind_some, dlen, dlenN, if_pos (show (i : Int) < l.length by omega), if_pos (show 0 ≤ (i : Int) by omega), beq_self_eq_true, Bool.and_self, Bool.true_eq_false, if_false, w64, cs1]
    exact ih (i + 1) (by omega)
theorem laws_qClues_same {l : List Clu} (hl : l.length ≤ 9223372036854775806) : Ev (fun k => laws_qClues.f k l l) true := by
  simp only [laws_qClues.b, laws_qClues.f, decide_eq_true_eq, Bool.not_eq_true', Bool.not_eq_false', beq_iff_eq, bne_iff_ne, ne_eq, beq_eq_false_iff_ne, bne_eq_false_iff_eq, decide_eq_false_iff_not, Option.bind_some, dlen, dlenN, not_true_eq_false, if_false]
  exact laws_qClues_loop hl l.length 0 (by omega)
/-! ### impl_isWalled -/
theorem impl_isWalled_yes {up dn w : Int} (h : hidOk up dn) (hw : 1 ≤ w ∧ w ≤ 1000000) : impl_isWalled.f up dn w = some true := by
  unfold hidOk at h
  simp only [impl_isWalled.b, impl_isWalled.f, impl_IsSnail.b, impl_IsSnail.f, impl_isWall.b, impl_isWall.f, impl_within_eq, decide_eq_true_eq, Bool.not_eq_true', Bool.not_eq_false', beq_iff_eq, bne_iff_ne, ne_eq, beq_eq_false_iff_ne, bne_eq_false_iff_eq, decide_eq_false_iff_not, Option.bind_some, dlen, dlenN]
  rw [if_pos (show 1 ≤ up ∧ up ≤ 1000 by omega)]
  simp only [Option.bind_some, dec_t (show 0 ≤ dn ∧ dn ≤ 1000 by omega), if_true, dec_t hw]
/-! ### impl_DaysToTop -/
theorem impl_DaysToTop_yes {up dn : Int} (h : hidOk up dn) : impl_DaysToTop.f up dn 50 = some (told 0 50 up dn, decide (told 0 50 up dn > 0)) := by
  have h' := h
  unfold hidOk at h'
  have hd := day_bd (a := 50) h (by omega)
  simp only [impl_DaysToTop.b, impl_DaysToTop.f, impl_isWalled_yes h (show 1 ≤ (50 : Int) ∧ (50 : Int) ≤ 1000000 by omega), Option.bind_some, Bool.not_true, Bool.true_eq_false, Bool.false_eq_true, if_false, impl_dayOfHeight.f, decide_eq_true_eq, Bool.not_eq_true', Bool.not_eq_false', beq_iff_eq, bne_iff_ne, ne_eq, beq_eq_false_iff_ne, bne_eq_false_iff_eq, decide_eq_false_iff_not, Option.bind_some, dlen, dlenN, told, if_true]
  by_cases c1 : 50 ≤ up
  · simp only [if_pos c1, Option.bind_some]
  · by_cases c2 : up ≤ dn
    · simp only [if_neg c1, if_pos c2, Option.bind_some]
    · simp (disch := omega) only [if_neg c1, if_neg c2, w64, if_neg (show ¬ up - dn = 0 by omega), Option.bind_some]
/-! ### impl_IsClue -/
theorem impl_IsClue_eq (kind a b : Int) : impl_IsClue.f kind a b = some (clueOk kind a b) := by
  simp only [impl_IsClue.b, impl_IsClue.f, impl_within_eq, decide_eq_true_eq, Bool.not_eq_true', Bool.not_eq_false', beq_iff_eq, bne_iff_ne, ne_eq, beq_eq_false_iff_ne, bne_eq_false_iff_eq, decide_eq_false_iff_not, Option.bind_some, dlen, dlenN, clue_and]
  unfold clueOk
  by_cases h0 : kind = 0
  · rw [if_pos h0, if_pos h0]
  · rw [if_neg h0, if_neg h0]
    by_cases h1 : kind = 1
    · rw [if_pos h1, if_pos h1]
    · rw [if_neg h1, if_neg h1]
      by_cases h2 : kind = 2
      · rw [if_pos h2, if_pos h2]
      · rw [if_neg h2, if_neg h2]
        by_cases h3 : kind = 3
        · rw [if_pos h3, if_pos h3]
        · rw [if_neg h3, if_neg h3]
/-! ### base_fit -/
def fitSays (kind a b up dn : Int) : Bool × Bool := if hidOk up dn ∧ clueOk kind a b = true then (told kind a up dn == b, true) else (false, false)
/-! ### impl_doesFit -/
theorem impl_doesFit_eq {kind a b up dn : Int} (h : hidOk up dn) (ha : aOk kind a) : impl_doesFit.f kind a b up dn = some (told kind a up dn == b) := by
  simp only [impl_doesFit.b, impl_doesFit.f, impl_toldBy_eq h ha, Option.bind_some]
/-! ### impl_DoesFit -/
theorem impl_DoesFit_eq (kind a b up dn : Int) : impl_DoesFit.f kind a b up dn = some (fitSays kind a b up dn) := by
  simp only [impl_DoesFit.b, impl_DoesFit.f, impl_IsClue_eq, impl_isHidden_eq, decide_eq_true_eq, Bool.not_eq_true', Bool.not_eq_false', beq_iff_eq, bne_iff_ne, ne_eq, beq_eq_false_iff_ne, bne_eq_false_iff_eq, decide_eq_false_iff_not, Option.bind_some, dlen, dlenN, fitSays]
  by_cases hc : clueOk kind a b = true
  · by_cases h : hidOk up dn
    · simp only [hc, h, decide_true, Bool.true_eq_false, if_false, not_true_eq_false, impl_doesFit_eq h (aOk_of hc), Option.bind_some, and_self, if_true]
    · simp only [hc, h, Bool.true_eq_false, if_false, not_false_eq_true, if_true, Option.bind_some, false_and]
  · rw [Bool.not_eq_true] at hc
    simp only [hc, if_true, Bool.false_eq_true, and_false, if_false]
/-! ### impl_EveningHeight -/
theorem impl_EveningHeight_yes {up dn : Int} (h : hidOk up dn) : impl_EveningHeight.f up dn 100 7 = some (told 1 7 up dn, true) := by
  have h' := h
  unfold hidOk at h'
  simp only [impl_EveningHeight.b, impl_EveningHeight.f, impl_isWalled_yes h (show 1 ≤ (100 : Int) ∧ (100 : Int) ≤ 1000000 by omega), Option.bind_some, Bool.not_true, Bool.true_eq_false, Bool.false_eq_true, if_false, impl_isWall.b, impl_isWall.f, impl_within_eq, dec_t (show 1 ≤ (7 : Int) ∧ (7 : Int) ≤ 1000000 by omega),
    impl_eveningHeight.b, impl_eveningHeight.f, impl_reachOf.f, mx_eq, mn_eq, told, if_true, if_neg (show ¬ (1 : Int) = 0 by omega)]
  have m1 := mulb (a := 6) (b := max 0 (up - dn)) (A := 100) (B := 12) (by omega) (by omega) (by omega) (by omega)
  rw [w64 (x := up - dn) (by omega) (by omega), w64 (x := 7 - 1) (by omega) (by omega), show (7 : Int) - 1 = 6 by omega, Int.mul_comm (max 0 (up - dn)), w64 (x := 6 * max 0 (up - dn)) (by omega) (by omega), w64 (by omega) (by omega)]
  by_cases c2 : up ≤ dn
  · rw [if_pos c2, show max 0 (up - dn) = 0 by omega, Int.mul_zero, Int.add_zero]
  · rw [if_neg c2, show max 0 (up - dn) = up - dn by omega]
/-! ### base_list -/
theorem drop_cons {α : Type} (z : α) {l : List α} {i : Nat} (h : i < l.length) : l.drop i = l.getD i z :: l.drop (i + 1) := by
  rw [List.drop_eq_getElem_cons h, List.getD_eq_getElem?_getD, List.getElem?_eq_getElem h]; rfl
theorem take_snoc' {α : Type} (z : α) {l : List α} {i : Nat} (h : i < l.length) : l.take (i + 1) = l.take i ++ [l.getD i z] := by
  rw [List.take_succ_eq_append_getElem h, List.getD_eq_getElem?_getD, List.getElem?_eq_getElem h]; rfl
/-- A row that is filled place by place. -/
theorem fill_step {α β : Type} (g : α → β) (za : α) (zb : β) {l : List α} {i : Nat} (h : i < l.length) :
    ((l.take i).map g ++ List.replicate (l.length - i) zb).set i (g (l.getD i za)) = (l.take (i + 1)).map g ++ List.replicate (l.length - (i + 1)) zb := by
  rw [take_snoc' za h, List.map_append, List.set_append_right _ _ (by simp; omega)]
  have e : i - ((l.take i).map g).length = 0 := by simp; omega
  rw [e, show l.length - i = (l.length - (i + 1)) + 1 by omega, List.replicate_succ, List.set_cons_zero]
  simp
theorem fill_len {α β : Type} (g : α → β) (zb : β) {l : List α} {i : Nat} (h : i ≤ l.length) : ((l.take i).map g ++ List.replicate (l.length - i) zb).length = l.length := by
  simp; omega
/-! ### base_clue -/
/-- A clue that is one. -/
def cGood (v : Clu) : Bool := clueOk v.f0 v.f1 v.f2
def cluOk (l : List Clu) : Bool := decide (l.length ≤ 6) && l.all cGood
/-! ### impl_IsPuzzle -/
theorem impl_IsPuzzle_1_eq (a b c : Int) : impl_IsPuzzle_1.f a b c = some (!cGood (a, b, c)) := by
  simp only [impl_IsPuzzle_1.b, impl_IsPuzzle_1.f, impl_IsClue_eq, Option.bind_some, cGood]
theorem IndexFunc_Clue_loop {l : List Clu} (hl : l.length ≤ 6) (d : Nat) : ∀ i : Nat, i + d = l.length →
    ∃ r : Int, Ev (fun k => slices_IndexFunc_impl_Clue_impl_Clue_impl_IsPuzzle_1.l0 k l (l.length : Int) (i : Int)) r ∧ (!decide (r ≥ 0)) = (l.drop i).all cGood := by
  induction d with
  | zero =>
    intro i hi
    rw [List.drop_eq_nil_of_le (by omega)]
    refine ⟨-1, ev_s ?_, rfl⟩
    simp only [slices_IndexFunc_impl_Clue_impl_Clue_impl_IsPuzzle_1.b0, slices_IndexFunc_impl_Clue_impl_Clue_impl_IsPuzzle_1.l0, decide_eq_true_eq, Bool.not_eq_true', Bool.not_eq_false', beq_iff_eq, bne_iff_ne, ne_eq, beq_eq_false_iff_ne, bne_eq_false_iff_eq, decide_eq_false_iff_not, Option.bind_some, dlen, dlenN, if_neg (show ¬ (i : Int) < l.length by omega)]
    exact Ev.now _
  | succ d ih =>
    intro i hi
    obtain ⟨r, h, hr⟩ := ih (i + 1) (by omega)
    rw [drop_cons ((0, 0, 0) : Clu) (show i < l.length by omega), List.all_cons, ← hr]
    have step : ∀ r', Ev (fun k => if (!cGood (l.getD i (0, 0, 0))) = true then some (i : Int) else slices_IndexFunc_impl_Clue_impl_Clue_impl_IsPuzzle_1.l0 k l (l.length : Int) ((i + 1 : Nat) : Int)) r' → Ev (fun k => slices_IndexFunc_impl_Clue_impl_Clue_impl_IsPuzzle_1.l0 k l (l.length : Int) (i : Int)) r' := by
      intro r' h'
      refine ev_s ?_
      simp (disch := omega) only [slices_IndexFunc_impl_Clue_impl_Clue_impl_IsPuzzle_1.b0, slices_IndexFunc_impl_Clue_impl_Clue_impl_IsPuzzle_1.l0, dlen, decide_eq_true_eq, if_pos (show (i : Int) < l.length by omega), if_pos (show 0 ≤ (i : Int) by omega), rd_nat, impl_IsPuzzle_1_eq, Option.bind_some, w64, cs1]
      exact h'
    cases hv : cGood (l.getD i (0, 0, 0)) with
    | true =>
      refine ⟨r, step r ?_, by simp⟩
      rw [hv]
      exact h
    | false =>
      refine ⟨i, step i ?_, by simp⟩
      rw [hv]
      exact Ev.now _
theorem impl_IsPuzzle_eq (l : List Clu) : Ev (fun k => impl_IsPuzzle.f k l) (cluOk l) := by
  unfold cluOk
  simp only [impl_IsPuzzle.b, impl_IsPuzzle.f, dlen, decide_eq_true_eq]
  by_cases h : l.length ≤ 6
  · simp only [if_pos (show (l.length : Int) ≤ 6 by omega), dec_t h, Bool.true_and]
    obtain ⟨r, h1, h2⟩ := IndexFunc_Clue_loop h l.length 0 (by omega)
    rw [List.drop_zero] at h2
    rw [← h2]
    simp only [slices_ContainsFunc_impl_Clue_impl_Clue_impl_IsPuzzle_1.b, slices_ContainsFunc_impl_Clue_impl_Clue_impl_IsPuzzle_1.f, slices_IndexFunc_impl_Clue_impl_Clue_impl_IsPuzzle_1.b, slices_IndexFunc_impl_Clue_impl_Clue_impl_IsPuzzle_1.f]
    exact Ev.bind (Ev.bind h1 (Ev.now _)) (Ev.now _)
  · simp only [if_neg (show ¬ ((l.length : Int) ≤ 6) by omega), dec_f h, Bool.false_and]
    exact Ev.now _
/-! ### spec_l1Cur_clue -/
theorem spec_l1Cur_clue_some {s : List Int} (hs : AllBytes s) {a : Int} (d : Int) (h0 : 0 ≤ a) (h1 : a ≤ 10000000) : Goes s a 18 (spec_l1Cur_clue.f s a d) fun _ => True := by
  unfold spec_l1Cur_clue.f spec_l1Cur_clue.b
  refine Goes.step (n := 2) (m := 16) (spec_l1Cur_pick_some hs d 5 h0 (by omega)) (by omega) fun v0 a0 e0 _ _ _ => ?_
  refine Goes.step (n := 2) (m := 14) (spec_l1Cur_pick_some hs e0 9 (by omega) (by omega)) (by omega) fun v1 a1 e1 _ _ _ => ?_
  refine Goes.step (n := 2) (m := 12) (spec_l1Cur_pick_some hs e1 12 (by omega) (by omega)) (by omega) fun v2 a2 e2 _ _ _ => ?_
  refine Goes.step (n := 2) (m := 10) (spec_l1Cur_pick_some hs e2 9 (by omega) (by omega)) (by omega) fun v3 a3 e3 _ _ _ => ?_
  have last : ∀ {b e : Int} {w : Int × Int × Int} {K : Int → Int → Int × Int × Int} {c : Prop} [Decidable c], 0 ≤ b → b ≤ 100000000 → Goes s b 4 (if c then ((spec_l1Cur_pick.f s b e 10).bind fun t6 => (spec_l1Cur_pick.f t6.2.1 t6.2.2.1 t6.2.2.2 3).bind fun t7 => some (K t6.1 t7.1, t7.2)) else (some (w, s, b, e))) fun _ => True := by
    intro b e w K c _ hb hb'
    refine Goes.ite (fun _ => ?_) (fun _ => ?_)
    · refine Goes.step (n := 2) (m := 2) (spec_l1Cur_pick_some hs e 10 hb (by omega)) (by omega) fun v a' e' _ _ _ => ?_
      exact Goes.step (n := 2) (m := 0) (spec_l1Cur_pick_some hs e' 3 (by omega) (by omega)) (by omega) fun v a' e' _ _ _ => Goes.now trivial
    · exact (Goes.now trivial).le (by omega) fun _ h => h
  refine Goes.ite (fun _ => ?_) (fun _ => ?_)
  · refine Goes.step (n := 2) (m := 6) (spec_l1Cur_pick_some hs e3 20 (by omega) (by omega)) (by omega) fun v4 a4 e4 _ _ _ => ?_
    refine Goes.step (n := 2) (m := 4) (spec_l1Cur_pick_some hs e4 9 (by omega) (by omega)) (by omega) fun v5 a5 e5 _ _ _ => ?_
    exact last (K := fun x y => (_, wrap64 (1 + x), y)) (by omega) (by omega)
  · refine Goes.ite (fun _ => ?_) (fun _ => ?_)
    · refine Goes.step (n := 2) (m := 6) (spec_l1Cur_pick_some hs e3 20 (by omega) (by omega)) (by omega) fun v4 a4 e4 _ _ _ => ?_
      refine Goes.step (n := 2) (m := 4) (spec_l1Cur_pick_some hs e4 9 (by omega) (by omega)) (by omega) fun v5 a5 e5 _ _ _ => ?_
      exact last (K := fun x y => (_, wrap64 (1 + x), y)) (by omega) (by omega)
    · refine Goes.step (n := 2) (m := 8) (spec_l1Cur_one_some hs e3 10 (by omega) (by omega)) (by omega) fun v4 a4 e4 _ _ _ => ?_
      refine Goes.ite (fun _ => ?_) (fun _ => ?_)
      · refine Goes.step (n := 2) (m := 6) (spec_l1Cur_pick_some hs e4 20 (by omega) (by omega)) (by omega) fun v5 a5 e5 _ _ _ => ?_
        refine Goes.step (n := 2) (m := 4) (spec_l1Cur_pick_some hs e5 9 (by omega) (by omega)) (by omega) fun v6 a6 e6 _ _ _ => ?_
        exact last (K := fun x y => (_, wrap64 (1 + x), y)) (by omega) (by omega)
      · exact (last (K := fun x y => (_, wrap64 (1 + x), y)) (by omega) (by omega)).le (by omega) fun _ h => h
/-! ### spec_l1Cur_puzzle -/
/-- The same, with fuel. -/
def EvGoes {α : Type} (s : List Int) (a n : Int) (g : Nat → Option (α × List Int × Int × Int)) (P : α → Prop) : Prop := ∃ v a' e, Ev g (v, s, a', e) ∧ a ≤ a' ∧ a' ≤ a + n ∧ P v
theorem Goes.ev {α : Type} {s : List Int} {a n : Int} {x : Option (α × List Int × Int × Int)} {P : α → Prop} (h : Goes s a n x P) : EvGoes s a n (fun _ => x) P := by
  obtain ⟨v, a', e, h0, h1, h2, h3⟩ := h
  exact ⟨v, a', e, ⟨0, fun _ _ => h0⟩, h1, h2, h3⟩
theorem EvGoes.bind {α β : Type} {s : List Int} {a n m l : Int} {g : Nat → Option (α × List Int × Int × Int)} {P : α → Prop} {f : Nat → α × List Int × Int × Int → Option (β × List Int × Int × Int)} {Q : β → Prop} (h : EvGoes s a n g P) (hl : n + m ≤ l)
    (k : ∀ v a' e, a ≤ a' → a' ≤ a + n → P v → EvGoes s a' m (fun k => f k (v, s, a', e)) Q) : EvGoes s a l (fun k => (g k).bind (f k)) Q := by
  obtain ⟨v, a', e, h0, h1, h2, h3⟩ := h
  obtain ⟨u, b, q, h4, h5, h6, h7⟩ := k v a' e h1 h2 h3
  exact ⟨u, b, q, Ev.bind h0 h4, by omega, by omega, h7⟩
theorem EvGoes.val {α β : Type} {s : List Int} {a n : Int} {g : Nat → Option α} {v : α} {f : Nat → α → Option (β × List Int × Int × Int)} {Q : β → Prop} (h : Ev g v) (k : EvGoes s a n (fun k => f k v) Q) : EvGoes s a n (fun k => (g k).bind (f k)) Q := by
  obtain ⟨u, b, q, h4, h5⟩ := k
  exact ⟨u, b, q, Ev.bind h h4, h5⟩
theorem EvGoes.s {α : Type} {s : List Int} {a n : Int} {g : Nat → Option (α × List Int × Int × Int)} {P : α → Prop} (h : EvGoes s a n (fun k => g (k + 1)) P) : EvGoes s a n g P := by
  obtain ⟨v, a', e, h0, h1⟩ := h
  exact ⟨v, a', e, ev_s h0, h1⟩
theorem EvGoes.le {α : Type} {s : List Int} {a n m : Int} {g : Nat → Option (α × List Int × Int × Int)} {P Q : α → Prop} (h : EvGoes s a n g P) (hn : n ≤ m) (hP : ∀ v, P v → Q v) : EvGoes s a m g Q := by
  obtain ⟨v, a', e, h0, h1, h2, h3⟩ := h
  exact ⟨v, a', e, h0, h1, by omega, hP v h3⟩
theorem spec_l1Cur_surePuzzle_some {s : List Int} (hs : AllBytes s) {a : Int} (d n : Int) (hn : 0 ≤ n ∧ n ≤ 100) (h0 : 0 ≤ a) (h1 : a ≤ 1000000) : EvGoes s a 8 (fun k => spec_l1Cur_surePuzzle.f k s a d n) fun v => v.length ≤ 6 := by
  unfold spec_l1Cur_surePuzzle.f spec_l1Cur_surePuzzle.b
  refine EvGoes.bind (n := 4) (m := 4) (spec_l1Cur_hidden_some hs d h0 (by omega)).ev (by omega) fun v a1 e1 _ _ hv => ?_
  refine EvGoes.bind (n := 2) (m := 2) (spec_l1Cur_pick_some hs e1 _ (by omega) (by omega)).ev (by omega) fun u a2 e2 _ _ hu => ?_
  refine EvGoes.bind (n := 2) (m := 0) (spec_l1Cur_pick_some hs e2 10000 (by omega) (by omega)).ev (by omega) fun w a3 e3 _ _ hw => ?_
  refine EvGoes.val (spec_MakePuzzle_eq v.1 v.2 u w) ?_
  exact (Goes.now (P := fun v : List Clu => v.length ≤ 6) (makeSays_len v.1 v.2 u w)).ev
theorem spec_l1Cur_puzzle_loop {s : List Int} (hs : AllBytes s) (n : Nat) : ∀ {a : Int} (d : Int) (p : List Clu), 0 ≤ a → a ≤ 1000000 + 2 * (7 - (n : Int)) → n ≤ 7 → p.length + n = 7 → EvGoes s a (2 * (n : Int) + 2) (fun k => spec_l1Cur_puzzle.l0 k s a d p) fun v => v.length ≤ 7 := by
  induction n with
  | zero =>
    intro a d p h0 h1 hn hp
    refine EvGoes.s ?_
    simp only [spec_l1Cur_puzzle.b0, spec_l1Cur_puzzle.l0]
    refine EvGoes.bind (n := 2) (m := 0) (pick_lt hs d (n := 2) (by omega) h0 (by omega)).ev (by omega) fun v a1 e1 _ _ hv => ?_
    simp (disch := omega) only [w64, decide_eq_true_eq, dlen, if_neg (show ¬ (p.length : Int) < 6 + v by omega)]
    exact (Goes.now (by omega)).ev
  | succ n ih =>
    intro a d p h0 h1 hn hp
    refine EvGoes.s ?_
    simp only [spec_l1Cur_puzzle.b0, spec_l1Cur_puzzle.l0]
    refine EvGoes.bind (n := 2) (m := 2 * (n : Int) + 2) (pick_lt hs d (n := 2) (by omega) h0 (by omega)).ev (by omega) fun v a1 e1 _ _ hv => ?_
    by_cases c : (p.length : Int) < 6 + v
    · simp (disch := omega) only [w64, decide_eq_true_eq, dlen, dlenN, if_pos c, if_pos (show p.length + 1 ≤ 5864062014805 by omega)]
      exact ih e1 (p ++ [(2, 0, 9)]) (by omega) (by omega) (by omega) (by simp; omega)
    · simp (disch := omega) only [w64, decide_eq_true_eq, dlen, if_neg c]
      exact (Goes.now (P := fun v : List Clu => v.length ≤ 7) (by omega)).ev.le (by omega) fun _ h => h
theorem spec_l1Cur_puzzle_some {s : List Int} (hs : AllBytes s) {a : Int} (d : Int) (h0 : 0 ≤ a) (h1 : a ≤ 10000) : EvGoes s a 100 (fun k => spec_l1Cur_puzzle.f k s a d) fun v => v.length ≤ 7 := by
  unfold spec_l1Cur_puzzle.f spec_l1Cur_puzzle.b
  refine EvGoes.bind (n := 8) (m := 92) (spec_l1Cur_surePuzzle_some hs d 5 (by omega) h0 (by omega)) (by omega) fun v a1 e1 _ _ hv => ?_
  refine EvGoes.bind (n := 2) (m := 90) (spec_l1Cur_pick_some hs e1 12 (by omega) (by omega)).ev (by omega) fun u a2 e2 _ _ hu => ?_
  by_cases c0 : (u == 0) = true
  · simp only [if_pos c0]
    refine EvGoes.bind (n := 18) (m := 72) (spec_l1Cur_clue_some hs e2 (by omega) (by omega)).ev (by omega) fun w a3 e3 _ _ _ => ?_
    simp only [dlenN, if_pos (show v.length + 1 ≤ 5864062014805 by omega)]
    exact (Goes.now (P := fun v : List Clu => v.length ≤ 7) (by simp; omega)).ev.le (by omega) fun _ h => h
  · by_cases c1 : (u == 1) = true
    · simp only [if_neg c0, if_pos c1]
      obtain ⟨n, hn⟩ : ∃ n, v.length + n = 7 := ⟨7 - v.length, by omega⟩
      exact (spec_l1Cur_puzzle_loop hs n e2 v (by omega) (by omega) (by omega) hn).le (by omega) fun _ h => h
    · simp only [if_neg c0, if_neg c1]
      exact (Goes.now (P := fun v : List Clu => v.length ≤ 7) (by omega)).ev.le (by omega) fun _ h => h
/-! ### spec_DrawHarderPuzzle -/
theorem EvGoes.done {α β : Type} {s : List Int} {a n : Int} {g : Nat → Option (α × List Int × Int × Int)} {P : α → Prop} (h : EvGoes s a n g P) {f : Nat → α × List Int × Int × Int → Option β} {Q : β → Prop} (k : ∀ v a' e, a ≤ a' → a' ≤ a + n → P v → ∃ r, Ev (fun k => f k (v, s, a', e)) r ∧ Q r) : ∃ r, Ev (fun k => (g k).bind (f k)) r ∧ Q r := by
  obtain ⟨v, a', e, h0, h1, h2, h3⟩ := h
  obtain ⟨r, h4, h5⟩ := k v a' e h1 h2 h3
  exact ⟨r, Ev.bind h0 h4, h5⟩
theorem ev_val {α β : Type} {g : Nat → Option α} {v : α} {f : Nat → α → Option β} {Q : β → Prop} (h : Ev g v) (k : ∃ r, Ev (fun k => f k v) r ∧ Q r) : ∃ r, Ev (fun k => (g k).bind (f k)) r ∧ Q r := by
  obtain ⟨r, h4, h5⟩ := k
  exact ⟨r, Ev.bind h h4, h5⟩
theorem spec_DrawHarderPuzzle_some {s : List Int} (hs : AllBytes s) : ∃ r, Ev (fun k => spec_DrawHarderPuzzle.f k s) r ∧ r.length ≤ 8 := by
  unfold spec_DrawHarderPuzzle.f spec_DrawHarderPuzzle.b
  refine (spec_l1Cur_one_some hs 0 4 (by omega) (by omega)).ev.done fun v a1 e _ _ _ => ?_
  by_cases hv : v = true
  · simp only [if_pos hv]
    exact (spec_l1Cur_puzzle_some hs e (by omega) (by omega)).done fun v a2 e _ _ h => ⟨v, Ev.now _, by omega⟩
  · simp only [if_neg hv]
    refine (spec_l1Cur_hidden_some hs e (by omega) (by omega)).ev.done fun v a2 e _ _ h => ?_
    dsimp only
    refine (spec_l1Cur_pick_some hs e 4 (by omega) (by omega)).ev.done fun u a3 e _ _ _ => ?_
    dsimp only
    refine (spec_l1Cur_pick_some hs e 10000 (by omega) (by omega)).ev.done fun w a4 e _ _ _ => ?_
    have hl := makeSays_len v.1 v.2 u w
    refine ev_val (spec_MakePuzzle_eq v.1 v.2 u w) ?_
    simp only [spec_pzOf_eq h (show (0 : Int) ≤ 0 by omega), Option.bind_some, dlenN, if_pos (show (makeSays v.1 v.2 u w).1.length + 2 ≤ 5864062014805 by omega)]
    exact ⟨_, Ev.now _, by simp; omega⟩
/-! ### base_aall -/
/-- A list whose clues' numbers are in their ranges. -/
def aAll (l : List Clu) : Prop := l.length ≤ 6 ∧ ∀ v ∈ l, aOk v.f0 v.f1
theorem aAll_of {l : List Clu} (h : cluOk l = true) : aAll l := by
  unfold cluOk at h
  rw [Bool.and_eq_true, List.all_eq_true] at h
  exact ⟨of_decide_eq_true h.1, fun v hv => aOk_of (h.2 v hv)⟩
theorem aAll_at {l : List Clu} (h : aAll l) {i : Nat} (hi : i < l.length) : aOk (l.getD i ((0, 0, 0) : Clu)).f0 (l.getD i ((0, 0, 0) : Clu)).f1 := by
  refine h.2 _ ?_
  rw [List.getD_eq_getElem?_getD, List.getElem?_eq_getElem hi]
  exact List.getElem_mem hi
/-! ### base_sols -/
/-- A snail fits all clues of a list. -/
def fitAll (l : List Clu) (up dn : Int) : Bool := l.all fun v => told v.f0 v.f1 up dn == v.f2
/-- The snails of one Up that fit, from one Down on, so many. -/
def solD (l : List Clu) (up : Int) : Nat → Int → List Sna
  | 0, _ => []
  | d + 1, j => (if fitAll l up j = true then [⟨up, j⟩] else []) ++ solD l up d (j + 1)
def solU (l : List Clu) : Nat → Int → List Sna
  | 0, _ => []
  | d + 1, i => solD l i 13 0 ++ solU l d (i + 1)
/-- All hidden snails that fit, in order. -/
def sols (l : List Clu) : List Sna := solU l 12 1
theorem solD_len (l : List Clu) (up : Int) (d : Nat) : ∀ j, (solD l up d j).length ≤ d := by
  induction d with
  | zero => intro j; simp [solD]
  | succ d ih =>
    intro j
    have := ih (j + 1)
    rw [solD, List.length_append]
    split <;> simp <;> omega
theorem solU_len (l : List Clu) (d : Nat) : ∀ i, (solU l d i).length ≤ 13 * d := by
  induction d with
  | zero => intro i; simp [solU]
  | succ d ih =>
    intro i
    have := ih (i + 1)
    have := solD_len l i 13 0
    rw [solU, List.length_append]
    omega
theorem sols_len (l : List Clu) : (sols l).length ≤ 156 := solU_len l 12 1
/-! ### impl_solutions -/
theorem impl_solutions_1_eq {up dn : Int} (h : hidOk up dn) {a b c : Int} (hv : aOk a b) : impl_solutions_1.f a b c up dn = some (!(told a b up dn == c)) := by
  simp only [impl_solutions_1.b, impl_solutions_1.f, impl_doesFit_eq h hv, Option.bind_some]
theorem IndexFunc_sol_loop {l : List Clu} (hl : aAll l) {up dn : Int} (h : hidOk up dn) (d : Nat) : ∀ i : Nat, i + d = l.length →
    ∃ r : Int, Ev (fun k => slices_IndexFunc_impl_Clue_impl_Clue_impl_solutions_1.l0 k l up dn (l.length : Int) (i : Int)) r ∧ (!decide (r ≥ 0)) = fitAll (l.drop i) up dn := by
  have hlen := hl.1
  induction d with
  | zero =>
    intro i hi
    rw [List.drop_eq_nil_of_le (by omega)]
    refine ⟨-1, ev_s ?_, rfl⟩
    simp only [slices_IndexFunc_impl_Clue_impl_Clue_impl_solutions_1.b0, slices_IndexFunc_impl_Clue_impl_Clue_impl_solutions_1.l0, decide_eq_true_eq, Bool.not_eq_true', Bool.not_eq_false', beq_iff_eq, bne_iff_ne, ne_eq, beq_eq_false_iff_ne, bne_eq_false_iff_eq, decide_eq_false_iff_not, Option.bind_some, dlen, dlenN, if_neg (show ¬ (i : Int) < l.length by omega)]
    exact Ev.now _
  | succ d ih =>
    intro i hi
    obtain ⟨r, hE, hr⟩ := ih (i + 1) (by omega)
    rw [fitAll, drop_cons ((0, 0, 0) : Clu) (show i < l.length by omega), List.all_cons]
    have step : ∀ r', Ev (fun k => if (!(told (l.getD i (0, 0, 0)).1 (l.getD i (0, 0, 0)).2.1 up dn == (l.getD i (0, 0, 0)).2.2)) = true then some (i : Int) else slices_IndexFunc_impl_Clue_impl_Clue_impl_solutions_1.l0 k l up dn (l.length : Int) ((i + 1 : Nat) : Int)) r' → Ev (fun k => slices_IndexFunc_impl_Clue_impl_Clue_impl_solutions_1.l0 k l up dn (l.length : Int) (i : Int)) r' := by
      intro r' h'
      refine ev_s ?_
      simp (disch := omega) only [slices_IndexFunc_impl_Clue_impl_Clue_impl_solutions_1.b0, slices_IndexFunc_impl_Clue_impl_Clue_impl_solutions_1.l0, dlen, decide_eq_true_eq, if_pos (show (i : Int) < l.length by omega), if_pos (show 0 ≤ (i : Int) by omega), rd_nat, impl_solutions_1_eq h (aAll_at hl (show i < l.length by omega)), Option.bind_some, w64, cs1]
      exact h'
    cases hv : (told (l.getD i (0, 0, 0)).1 (l.getD i (0, 0, 0)).2.1 up dn == (l.getD i (0, 0, 0)).2.2) with
    | true =>
      refine ⟨r, step r ?_, by rw [hr]; simp [fitAll]⟩
      rw [hv]
      exact hE
    | false =>
      refine ⟨i, step i ?_, by simp⟩
      rw [hv]
      exact Ev.now _
theorem ContainsFunc_sol_eq {l : List Clu} (hl : aAll l) {up dn : Int} (h : hidOk up dn) : Ev (fun k => slices_ContainsFunc_impl_Clue_impl_Clue_impl_solutions_1.f k l up dn) (!fitAll l up dn) := by
  obtain ⟨r, h1, h2⟩ := IndexFunc_sol_loop hl h l.length 0 (by omega)
  rw [List.drop_zero] at h2
  rw [← h2, Bool.not_not]
  simp only [slices_ContainsFunc_impl_Clue_impl_Clue_impl_solutions_1.b, slices_ContainsFunc_impl_Clue_impl_Clue_impl_solutions_1.f, slices_IndexFunc_impl_Clue_impl_Clue_impl_solutions_1.b, slices_IndexFunc_impl_Clue_impl_Clue_impl_solutions_1.f]
  exact Ev.bind h1 (Ev.now _)
theorem impl_solutions_l1 {l : List Clu} (hl : aAll l) {up : Int} (h : 1 ≤ up ∧ up ≤ 12) {R : List Sna} (d : Nat) : ∀ (j : Int) (acc : List Sna), 0 ≤ j → j + d = 13 → acc.length + d ≤ 1000 →
    Ev (fun k => impl_solutions.l0 k l (up + 1) (acc ++ solD l up d j)) R → Ev (fun k => impl_solutions.l1 k l up j acc) R := by
  induction d with
  | zero =>
    intro j acc h0 hj ha hR
    refine ev_s ?_
    simp (disch := omega) only [impl_solutions.b1, impl_solutions.l1, decide_eq_true_eq, Bool.not_eq_true', Bool.not_eq_false', beq_iff_eq, bne_iff_ne, ne_eq, beq_eq_false_iff_ne, bne_eq_false_iff_eq, decide_eq_false_iff_not, Option.bind_some, dlen, dlenN, if_neg (show ¬ j < 13 by omega), w64]
    simpa [solD] using hR
  | succ d ih =>
    intro j acc h0 hj ha hR
    refine ev_s ?_
    simp only [impl_solutions.b1, impl_solutions.l1, decide_eq_true_eq, Bool.not_eq_true', Bool.not_eq_false', beq_iff_eq, bne_iff_ne, ne_eq, beq_eq_false_iff_ne, bne_eq_false_iff_eq, decide_eq_false_iff_not, Option.bind_some, dlen, dlenN, if_pos (show j < 13 by omega)]
    refine Ev.bind (ContainsFunc_sol_eq hl (show hidOk up j by unfold hidOk; omega)) ?_
    rw [solD, ← List.append_assoc] at hR
    cases hf : fitAll l up j with
    | true =>
      rw [hf] at hR
      simp (disch := omega) only [Bool.not_true, if_true, if_pos (show acc.length + 1 ≤ 8796093022208 by omega), w64]
      refine ih (j + 1) _ (by omega) (by omega) (by simp; omega) ?_
      simpa using hR
    | false =>
      rw [hf] at hR
      simp (disch := omega) only [Bool.not_false, Bool.true_eq_false, if_false, w64]
      refine ih (j + 1) _ (by omega) (by omega) (by omega) ?_
      simpa using hR
theorem impl_solutions_l0 {l : List Clu} (hl : aAll l) (d : Nat) : ∀ (i : Int) (acc : List Sna), 1 ≤ i → i + d = 13 → acc.length + 13 * d ≤ 1000 →
    Ev (fun k => impl_solutions.l0 k l i acc) (acc ++ solU l d i) := by
  induction d with
  | zero =>
    intro i acc h0 hi ha
    refine ev_s ?_
    simp only [impl_solutions.b0, impl_solutions.l0, decide_eq_true_eq, Bool.not_eq_true', Bool.not_eq_false', beq_iff_eq, bne_iff_ne, ne_eq, beq_eq_false_iff_ne, bne_eq_false_iff_eq, decide_eq_false_iff_not, Option.bind_some, dlen, dlenN, if_neg (show ¬ i ≤ 12 by omega)]
    exact ev_now (by simp [solU])
  | succ d ih =>
    intro i acc h0 hi ha
    have hb := solD_len l i 13 0
    refine ev_s ?_
    simp only [impl_solutions.b0, impl_solutions.l0, decide_eq_true_eq, Bool.not_eq_true', Bool.not_eq_false', beq_iff_eq, bne_iff_ne, ne_eq, beq_eq_false_iff_ne, bne_eq_false_iff_eq, decide_eq_false_iff_not, Option.bind_some, dlen, dlenN, if_pos (show i ≤ 12 by omega)]
    refine impl_solutions_l1 hl (by omega) 13 0 acc (by omega) (by omega) (by omega) ?_
    rw [solU, ← List.append_assoc]
    exact ih (i + 1) _ (by omega) (by omega) (by rw [List.length_append]; omega)
theorem impl_solutions_eq {l : List Clu} (hl : aAll l) : Ev (fun k => impl_solutions.f k l) (sols l) :=
  impl_solutions_l0 hl 12 1 [] (by omega) (by omega) (by simp)
/-! ### slices_Clone_impl_Clue_impl_Clue -/
theorem Clone_Clue_eq {l : List Clu} (h : l.length ≤ 5864062014805) : slices_Clone_impl_Clue_impl_Clue.f l = some l := if_pos h
/-! ### base_sub -/
theorem aAll_sub {l l' : List Clu} (h : aAll l) (hs : l'.Sublist l) : aAll l' :=
  ⟨Nat.le_trans hs.length_le h.1, fun v hv => h.2 v (hs.subset hv)⟩
/-! ### base_drop -/
/-- A list without the i-th. -/
def dropAt {α : Type} (l : List α) (i : Nat) : List α := l.take i ++ l.drop (i + 1)
theorem dropAt_len {α : Type} {l : List α} {i : Nat} (h : i < l.length) : (dropAt l i).length = l.length - 1 := by
  unfold dropAt; simp; omega
theorem dropAt_sub {α : Type} (l : List α) (i : Nat) : (dropAt l i).Sublist l := by
  unfold dropAt
  have h : l.take i ++ l.drop i = l := List.take_append_drop i l
  conv => rhs; rw [← h]
  refine List.Sublist.append_left ?_ _
  rw [← List.drop_drop]
  exact List.drop_sublist _ _
def dropSays (l : List Clu) (i : Int) : List Clu × Bool := if cluOk l = true ∧ 0 ≤ i ∧ i < (l.length : Int) then (dropAt l i.toNat, true) else ([], false)
theorem dropSays_len (l : List Clu) (i : Int) : (dropSays l i).1.length ≤ 6 := by
  unfold dropSays
  split
  · rename_i h
    have := (aAll_of h.1).1
    exact Nat.le_trans (dropAt_sub l i.toNat).length_le this
  · simp
/-! ### impl_withoutClue -/
theorem impl_withoutClue_eq {l : List Clu} (hl : l.length ≤ 1000) {i : Nat} (hi : i < l.length) : impl_withoutClue.f l (i : Int) = some (dropAt l i) := by
  simp (disch := omega) only [impl_withoutClue.b, impl_withoutClue.f, Clone_Clue_eq (show l.length ≤ 5864062014805 by omega), Option.bind_some, dlen, w64, if_pos (show (0 : Int) ≤ (i : Int) by omega), if_pos (show (i : Int) < (l.length : Int) by omega), if_true, if_pos (show (l.length : Int) ≤ 5000000000000 by omega), castsub, show ((i : Int) + 1).toNat = i + 1 by omega, dropAt]
/-! ### base_hard -/
/-- What is left where clues are taken out, from one on, each if there is one solution still. -/
def hardGo : Nat → List Clu → Nat → List Clu
  | 0, l, _ => l
  | n + 1, l, i => if i < l.length then (if ((sols (dropAt l i)).length : Int) = 1 then hardGo n (dropAt l i) i else hardGo n l (i + 1)) else l
theorem hardGo_len (n : Nat) : ∀ l i, (hardGo n l i).length ≤ l.length := by
  induction n with
  | zero => intro l i; exact Nat.le_refl _
  | succ n ih =>
    intro l i
    rw [hardGo]
    split
    · split
      · exact Nat.le_trans (ih _ _) (dropAt_sub l i).length_le
      · exact ih _ _
    · exact Nat.le_refl _
def hardSays (l : List Clu) : List Clu × Bool := if cluOk l = true ∧ ((sols l).length : Int) = 1 then (hardGo l.length l 0, true) else ([], false)
theorem hardSays_len (l : List Clu) : (hardSays l).1.length ≤ 6 := by
  unfold hardSays
  split
  · rename_i h
    exact Nat.le_trans (hardGo_len _ _ _) (aAll_of h.1).1
  · simp
/-! ### impl_HarderPuzzle -/
theorem impl_HarderPuzzle_loop (n : Nat) : ∀ (l : List Clu) (i : Nat), aAll l → l.length ≤ i + n → i ≤ 1000 → Ev (fun k => impl_HarderPuzzle.l0 k l (i : Int)) (hardGo n l i, true) := by
  induction n with
  | zero =>
    intro l i hl hi hb
    refine ev_s ?_
    simp only [impl_HarderPuzzle.b0, impl_HarderPuzzle.l0, decide_eq_true_eq, Bool.not_eq_true', Bool.not_eq_false', beq_iff_eq, bne_iff_ne, ne_eq, beq_eq_false_iff_ne, bne_eq_false_iff_eq, decide_eq_false_iff_not, Option.bind_some, dlen, dlenN, if_neg (show ¬ (i : Int) < (l.length : Int) by omega)]
    exact Ev.now _
  | succ n ih =>
    intro l i hl hi hb
    have hlen := hl.1
    refine ev_s ?_
    rw [hardGo]
    by_cases hc : i < l.length
    · rw [if_pos hc]
      simp (disch := omega) only [impl_HarderPuzzle.b0, impl_HarderPuzzle.l0, decide_eq_true_eq, Bool.not_eq_true', Bool.not_eq_false', beq_iff_eq, bne_iff_ne, ne_eq, beq_eq_false_iff_ne, bne_eq_false_iff_eq, decide_eq_false_iff_not, Option.bind_some, dlen, dlenN, if_pos (show (i : Int) < (l.length : Int) by omega), impl_withoutClue_eq (show l.length ≤ 1000 by omega) hc, w64]
      refine Ev.bind (impl_solutions_eq (aAll_sub hl (dropAt_sub l i))) ?_
      by_cases h1 : ((sols (dropAt l i)).length : Int) = 1
      · rw [if_pos h1]
        simp only [if_pos h1]
        exact ih (dropAt l i) i (aAll_sub hl (dropAt_sub l i)) (by rw [dropAt_len hc]; omega) hb
      · rw [if_neg h1]
        simp only [if_neg h1, cs1]
        exact ih l (i + 1) hl (by omega) (by omega)
    · rw [if_neg hc]
      simp only [impl_HarderPuzzle.b0, impl_HarderPuzzle.l0, decide_eq_true_eq, Bool.not_eq_true', Bool.not_eq_false', beq_iff_eq, bne_iff_ne, ne_eq, beq_eq_false_iff_ne, bne_eq_false_iff_eq, decide_eq_false_iff_not, Option.bind_some, dlen, dlenN, if_neg (show ¬ (i : Int) < (l.length : Int) by omega)]
      exact Ev.now _
theorem impl_HarderPuzzle_eq (l : List Clu) : Ev (fun k => impl_HarderPuzzle.f k l) (hardSays l) := by
  unfold impl_HarderPuzzle.f impl_HarderPuzzle.b hardSays
  refine Ev.bind (impl_IsPuzzle_eq l) ?_
  by_cases h : cluOk l = true
  · have hl := aAll_of h
    have hlen := hl.1
    simp only [h, Bool.not_true, Bool.false_eq_true, if_false, true_and]
    refine Ev.bind (impl_solutions_eq hl) ?_
    by_cases h1 : ((sols l).length : Int) = 1
    · simp only [dlen, h1, bne_self_eq_false, Bool.false_eq_true, if_false, if_true, Clone_Clue_eq (show l.length ≤ 5864062014805 by omega), Option.bind_some]
      exact impl_HarderPuzzle_loop l.length l 0 hl (by omega) (by omega)
    · simp only [dlen, bne_iff_ne, ne_eq, h1, not_false_eq_true, if_true, if_false]
      exact Ev.now _
  · rw [Bool.not_eq_true] at h
    simp only [h, Bool.not_false, if_true, Bool.false_eq_true, false_and, if_false]
    exact Ev.now _
/-! ### spec_pzClue -/
theorem spec_pzClue_eq (kind a b : Int) : spec_pzClue.f kind a b = some (clueOk kind a b) := by
  simp only [spec_pzClue.b, spec_pzClue.f, spec_l1In_eq, decide_eq_true_eq, Bool.not_eq_true', Bool.not_eq_false', beq_iff_eq, bne_iff_ne, ne_eq, beq_eq_false_iff_ne, bne_eq_false_iff_eq, decide_eq_false_iff_not, Option.bind_some, dlen, dlenN, clue_and]
  unfold clueOk
  by_cases h0 : kind = 0
  · rw [if_pos h0, if_pos h0]
  · rw [if_neg h0, if_neg h0]
    by_cases h1 : kind = 1
    · rw [if_pos h1, if_pos h1]
    · rw [if_neg h1, if_neg h1]
      by_cases h2 : kind = 2
      · rw [if_pos h2, if_pos h2]
      · rw [if_neg h2, if_neg h2]
        by_cases h3 : kind = 3
        · rw [if_pos h3, if_pos h3]
        · rw [if_neg h3, if_neg h3]
/-! ### spec_pzGood -/
theorem spec_pzGood_loop {l : List Clu} (hl : l.length ≤ 6) (d : Nat) : ∀ i : Nat, i + d = l.length →
    Ev (fun k => spec_pzGood.l0 k l (l.length : Int) (i : Int)) ((l.drop i).all cGood) := by
  induction d with
  | zero =>
    intro i hi
    rw [List.drop_eq_nil_of_le (by omega)]
    refine ev_s ?_
    simp only [spec_pzGood.b0, spec_pzGood.l0, decide_eq_true_eq, Bool.not_eq_true', Bool.not_eq_false', beq_iff_eq, bne_iff_ne, ne_eq, beq_eq_false_iff_ne, bne_eq_false_iff_eq, decide_eq_false_iff_not, Option.bind_some, dlen, dlenN, if_neg (show ¬ (i : Int) < l.length by omega)]
    exact Ev.now _
  | succ d ih =>
    intro i hi
    have h := ih (i + 1) (by omega)
    rw [drop_cons ((0, 0, 0) : Clu) (show i < l.length by omega), List.all_cons]
    refine ev_s ?_
    simp (disch := omega) only [spec_pzGood.b0, spec_pzGood.l0, dlen, decide_eq_true_eq, if_pos (show (i : Int) < l.length by omega), if_pos (show 0 ≤ (i : Int) by omega), rd_nat, spec_pzClue_eq, Option.bind_some, w64, cs1]
    simp only [show clueOk (l.getD i (0, 0, 0)).1 (l.getD i (0, 0, 0)).2.1 (l.getD i (0, 0, 0)).2.2 = cGood (l.getD i (0, 0, 0)) from rfl]
    cases hv : cGood (l.getD i (0, 0, 0)) with
    | true => simpa using h
    | false => simpa using Ev.now _
theorem spec_pzGood_eq (l : List Clu) : Ev (fun k => spec_pzGood.f k l) (cluOk l) := by
  unfold cluOk
  simp only [spec_pzGood.b, spec_pzGood.f, dlen, decide_eq_true_eq]
  by_cases h : l.length ≤ 6
  · simp only [if_neg (show ¬ ((l.length : Int) > 6) by omega), dec_t h, Bool.true_and]
    exact spec_pzGood_loop h l.length 0 (by omega)
  · simp only [if_pos (show (l.length : Int) > 6 by omega), dec_f h, Bool.false_and]
    exact Ev.now _
/-! ### spec_pzAll -/
theorem spec_pzFits_eq {kind a b up dn : Int} (h : hidOk up dn) (ha : aOk kind a) : spec_pzFits.f kind a b up dn = some (told kind a up dn == b) := by
  simp only [spec_pzFits.b, spec_pzFits.f, spec_pzValue_eq h ha, Option.bind_some]
theorem spec_pzAll_l2 {l : List Clu} (hl : aAll l) {up dn : Int} (h : hidOk up dn) {acc : List Sna} (hacc : acc.length ≤ 1000) {R : List Sna} (d : Nat) : ∀ (i : Nat) (b : Bool), i + d = l.length →
    Ev (fun k => spec_pzAll.l1 k l up (dn + 1) (acc ++ if (b && fitAll (l.drop i) up dn) = true then [(up, dn)] else [])) R →
    Ev (fun k => spec_pzAll.l2 k l up dn b l (l.length : Int) (i : Int) acc up dn) R := by
  have h' := h
  unfold hidOk at h'
  induction d with
  | zero =>
    intro i b hi hR
    rw [List.drop_eq_nil_of_le (by omega)] at hR
    refine ev_s ?_
    cases b with
    | true =>
      simp (disch := omega) only [spec_pzAll.b2, spec_pzAll.l2, decide_eq_true_eq, Bool.not_eq_true', Bool.not_eq_false', beq_iff_eq, bne_iff_ne, ne_eq, beq_eq_false_iff_ne, bne_eq_false_iff_eq, decide_eq_false_iff_not, Option.bind_some, dlen, dlenN, if_neg (show ¬ (i : Int) < l.length by omega), if_true, if_pos (show acc.length + 1 ≤ 8796093022208 by omega), w64]
      simpa [fitAll] using hR
    | false =>
      simp (disch := omega) only [spec_pzAll.b2, spec_pzAll.l2, decide_eq_true_eq, Bool.not_eq_true', Bool.not_eq_false', beq_iff_eq, bne_iff_ne, ne_eq, beq_eq_false_iff_ne, bne_eq_false_iff_eq, decide_eq_false_iff_not, Option.bind_some, dlen, dlenN, if_neg (show ¬ (i : Int) < l.length by omega), if_neg (show ¬ (false = true) by decide), w64]
      simpa using hR
  | succ d ih =>
    intro i b hi hR
    have hlen := hl.1
    rw [fitAll, drop_cons ((0, 0, 0) : Clu) (show i < l.length by omega), List.all_cons] at hR
    refine ev_s ?_
    cases b with
    | true =>
      simp (disch := omega) only [spec_pzAll.b2, spec_pzAll.l2, dlen, decide_eq_true_eq, if_pos (show (i : Int) < l.length by omega), if_pos (show 0 ≤ (i : Int) by omega), if_true, rd_nat, spec_pzFits_eq h (aAll_at hl (show i < l.length by omega)), Option.bind_some, w64, cs1]
      refine ih (i + 1) _ (by omega) ?_
      rw [Bool.true_and] at hR
      exact hR
    | false =>
      simp (disch := omega) only [spec_pzAll.b2, spec_pzAll.l2, dlen, decide_eq_true_eq, if_pos (show (i : Int) < l.length by omega), if_pos (show 0 ≤ (i : Int) by omega), if_neg (show ¬ (false = true) by decide), w64, cs1]
      refine ih (i + 1) _ (by omega) ?_
      simpa using hR
theorem spec_pzAll_l1 {l : List Clu} (hl : aAll l) {up : Int} (h : 1 ≤ up ∧ up ≤ 12) {R : List Sna} (d : Nat) : ∀ (j : Int) (acc : List Sna), 0 ≤ j → j + d = 13 → acc.length + d ≤ 1000 →
    Ev (fun k => spec_pzAll.l0 k l (up + 1) (acc ++ solD l up d j)) R → Ev (fun k => spec_pzAll.l1 k l up j acc) R := by
  induction d with
  | zero =>
    intro j acc h0 hj ha hR
    refine ev_s ?_
    simp (disch := omega) only [spec_pzAll.b1, spec_pzAll.l1, decide_eq_true_eq, Bool.not_eq_true', Bool.not_eq_false', beq_iff_eq, bne_iff_ne, ne_eq, beq_eq_false_iff_ne, bne_eq_false_iff_eq, decide_eq_false_iff_not, Option.bind_some, dlen, dlenN, if_neg (show ¬ j ≤ 12 by omega), w64]
    simpa [solD] using hR
  | succ d ih =>
    intro j acc h0 hj ha hR
    refine ev_s ?_
    simp only [spec_pzAll.b1, spec_pzAll.l1, decide_eq_true_eq, Bool.not_eq_true', Bool.not_eq_false', beq_iff_eq, bne_iff_ne, ne_eq, beq_eq_false_iff_ne, bne_eq_false_iff_eq, decide_eq_false_iff_not, Option.bind_some, dlen, dlenN, if_pos (show j ≤ 12 by omega)]
    refine spec_pzAll_l2 hl (show hidOk up j by unfold hidOk; omega) (by omega) l.length 0 true (by omega) ?_
    rw [solD, ← List.append_assoc] at hR
    refine ih (j + 1) _ (by omega) (by omega) ?_ ?_
    · rw [List.length_append]; split <;> simp <;> omega
    · simpa using hR
theorem spec_pzAll_l0 {l : List Clu} (hl : aAll l) (d : Nat) : ∀ (i : Int) (acc : List Sna), 1 ≤ i → i + d = 13 → acc.length + 13 * d ≤ 1000 →
    Ev (fun k => spec_pzAll.l0 k l i acc) (acc ++ solU l d i) := by
  induction d with
  | zero =>
    intro i acc h0 hi ha
    refine ev_s ?_
    simp only [spec_pzAll.b0, spec_pzAll.l0, decide_eq_true_eq, Bool.not_eq_true', Bool.not_eq_false', beq_iff_eq, bne_iff_ne, ne_eq, beq_eq_false_iff_ne, bne_eq_false_iff_eq, decide_eq_false_iff_not, Option.bind_some, dlen, dlenN, if_neg (show ¬ i ≤ 12 by omega)]
    exact ev_now (by simp [solU])
  | succ d ih =>
    intro i acc h0 hi ha
    have hb := solD_len l i 13 0
    refine ev_s ?_
    simp only [spec_pzAll.b0, spec_pzAll.l0, decide_eq_true_eq, Bool.not_eq_true', Bool.not_eq_false', beq_iff_eq, bne_iff_ne, ne_eq, beq_eq_false_iff_ne, bne_eq_false_iff_eq, decide_eq_false_iff_not, Option.bind_some, dlen, dlenN, if_pos (show i ≤ 12 by omega)]
    refine spec_pzAll_l1 hl (by omega) 13 0 acc (by omega) (by omega) (by omega) ?_
    rw [solU, ← List.append_assoc]
    exact ih (i + 1) _ (by omega) (by omega) (by rw [List.length_append]; omega)
theorem spec_pzAll_eq {l : List Clu} (hl : aAll l) : Ev (fun k => spec_pzAll.f k l) (sols l) :=
  spec_pzAll_l0 hl 12 1 [] (by omega) (by omega) (by simp)
/-! ### spec_pzSolved -/
theorem spec_pzSolved_eq {l : List Clu} (h : aAll l) : Ev (fun k => spec_pzSolved.f k l) (((sols l).length : Int) == 1) := by
  unfold spec_pzSolved.f spec_pzSolved.b
  exact Ev.bind (spec_pzAll_eq h) (Ev.now _)
/-! ### spec_pzWithout -/
theorem spec_pzWithout_eq {l : List Clu} (hl : l.length ≤ 1000) {i : Nat} (hi : i < l.length) : spec_pzWithout.f l (i : Int) = some (dropAt l i) := by
  simp (disch := omega) only [spec_pzWithout.f, dlen, dlenN, w64, if_pos (show (0 : Int) ≤ (i : Int) by omega), if_pos (show (i : Int) ≤ (l.length : Int) by omega), if_pos (show (0 : Int) ≤ (i : Int) + 1 by omega), if_pos (show (i : Int) + 1 ≤ (l.length : Int) by omega), castsub, show ((i : Int) + 1).toNat = i + 1 by omega, List.nil_append]
  rw [if_pos (by simp; omega), if_pos (by simp; omega)]
  rfl
/-! ### spec_HarderPuzzle -/
theorem spec_HarderPuzzle_loop (n : Nat) : ∀ (l : List Clu) (i : Nat), aAll l → l.length ≤ i + n → i ≤ 1000 → Ev (fun k => spec_HarderPuzzle.l0 k l (i : Int)) (hardGo n l i, true) := by
  induction n with
  | zero =>
    intro l i hl hi hb
    refine ev_s ?_
    simp only [spec_HarderPuzzle.b0, spec_HarderPuzzle.l0, decide_eq_true_eq, Bool.not_eq_true', Bool.not_eq_false', beq_iff_eq, bne_iff_ne, ne_eq, beq_eq_false_iff_ne, bne_eq_false_iff_eq, decide_eq_false_iff_not, Option.bind_some, dlen, dlenN, if_neg (show ¬ (i : Int) < (l.length : Int) by omega)]
    exact Ev.now _
  | succ n ih =>
    intro l i hl hi hb
    have hlen := hl.1
    refine ev_s ?_
    rw [hardGo]
    by_cases hc : i < l.length
    · rw [if_pos hc]
      simp (disch := omega) only [spec_HarderPuzzle.b0, spec_HarderPuzzle.l0, dlen, decide_eq_true_eq, Option.bind_some, if_pos (show (i : Int) < (l.length : Int) by omega), spec_pzWithout_eq (show l.length ≤ 1000 by omega) hc, w64]
      refine Ev.bind (spec_pzSolved_eq (aAll_sub hl (dropAt_sub l i))) ?_
      by_cases h1 : ((sols (dropAt l i)).length : Int) = 1
      · rw [if_pos h1]
        simp only [if_pos (show (((sols (dropAt l i)).length : Int) == 1) = true by rw [h1]; rfl)]
        exact ih (dropAt l i) i (aAll_sub hl (dropAt_sub l i)) (by rw [dropAt_len hc]; omega) hb
      · rw [if_neg h1]
        simp only [if_neg (show ¬ (((sols (dropAt l i)).length : Int) == 1) = true by simpa using h1), cs1]
        exact ih l (i + 1) hl (by omega) (by omega)
    · rw [if_neg hc]
      simp only [spec_HarderPuzzle.b0, spec_HarderPuzzle.l0, decide_eq_true_eq, Bool.not_eq_true', Bool.not_eq_false', beq_iff_eq, bne_iff_ne, ne_eq, beq_eq_false_iff_ne, bne_eq_false_iff_eq, decide_eq_false_iff_not, Option.bind_some, dlen, dlenN, if_neg (show ¬ (i : Int) < (l.length : Int) by omega)]
      exact Ev.now _
theorem spec_HarderPuzzle_eq (l : List Clu) : Ev (fun k => spec_HarderPuzzle.f k l) (hardSays l) := by
  unfold spec_HarderPuzzle.f spec_HarderPuzzle.b hardSays
  refine Ev.bind (spec_pzGood_eq l) ?_
  by_cases h : cluOk l = true
  · have hl := aAll_of h
    have hlen := hl.1
    simp only [h, Bool.not_true, Bool.false_eq_true, if_false, true_and]
    refine Ev.bind (spec_pzSolved_eq hl) ?_
    by_cases h1 : ((sols l).length : Int) = 1
    · simp only [h1, beq_self_eq_true, Bool.not_true, Bool.false_eq_true, if_false, if_true, dlenN, if_pos (show 0 + l.length ≤ 5864062014805 by omega), List.nil_append]
      exact spec_HarderPuzzle_loop l.length l 0 hl (by omega) (by omega)
    · simp only [show (((sols l).length : Int) == 1) = false by simpa using h1, Bool.not_false, if_true, h1, if_false]
      exact Ev.now _
  · rw [Bool.not_eq_true] at h
    simp only [h, Bool.not_false, if_true, Bool.false_eq_true, false_and, if_false]
    exact Ev.now _
/-! ### base_solved -/
def solvedSays (l : List Clu) : Bool × Bool := if cluOk l = true then (((sols l).length : Int) == 1, true) else (false, false)
def firstSays (l : List Clu) : Int × Int × Bool :=
  if cluOk l = true then (if ((sols l).length : Int) = 0 then (0, 0, false) else ((rd ((0, 0) : Sna) (sols l) 0).1, (rd ((0, 0) : Sna) (sols l) 0).2, true)) else (0, 0, false)
def sureGo : List Sna → Int → Int → Int × Int × Bool
  | [], a, b => (a, b, true)
  | s :: t, a, b => sureGo t (if s.f0 = a then a else -1) (if s.f1 = b then b else -1)
def sureSays (l : List Clu) : Int × Int × Bool :=
  if cluOk l = true then (if ((sols l).length : Int) = 0 then (0, 0, false) else sureGo (sols l) (rd ((0, 0) : Sna) (sols l) 0).1 (rd ((0, 0) : Sna) (sols l) 0).2) else (0, 0, false)
def solsSays (l : List Clu) : List Sna × Bool := if cluOk l = true then (sols l, true) else ([], false)
theorem solsSays_len (l : List Clu) : (solsSays l).1.length ≤ 156 := by
  unfold solsSays
  split
  · exact sols_len l
  · simp
/-! ### impl_IsSolved -/
theorem impl_IsSolved_eq (l : List Clu) : Ev (fun k => impl_IsSolved.f k l) (solvedSays l) := by
  unfold impl_IsSolved.f impl_IsSolved.b solvedSays
  refine Ev.bind (impl_IsPuzzle_eq l) ?_
  by_cases h : cluOk l = true
  · simp only [h, Bool.not_true, Bool.false_eq_true, if_false, if_true]
    exact Ev.bind (impl_solutions_eq (aAll_of h)) (Ev.now _)
  · rw [Bool.not_eq_true] at h
    simp only [h, Bool.not_false, if_true, Bool.false_eq_true, if_false]
    exact Ev.now _
/-! ### impl_Solutions -/
theorem impl_Solutions_eq (l : List Clu) : Ev (fun k => impl_Solutions.f k l) (solsSays l) := by
  unfold impl_Solutions.f impl_Solutions.b solsSays
  refine Ev.bind (impl_IsPuzzle_eq l) ?_
  by_cases h : cluOk l = true
  · simp only [h, Bool.not_true, Bool.false_eq_true, if_false, if_true]
    exact Ev.bind (impl_solutions_eq (aAll_of h)) (Ev.now _)
  · rw [Bool.not_eq_true] at h
    simp only [h, Bool.not_false, if_true, Bool.false_eq_true, if_false]
    exact Ev.now _
/-! ### base_need -/
def needGo (l : List Clu) : Nat → Nat → List Int
  | 0, _ => []
  | d + 1, i => if ((sols (dropAt l i)).length : Int) = ((sols l).length : Int) then (i : Int) :: needGo l d (i + 1) else needGo l d (i + 1)
theorem needGo_len (l : List Clu) (d : Nat) : ∀ i, (needGo l d i).length ≤ d := by
  induction d with
  | zero => intro i; simp [needGo]
  | succ d ih =>
    intro i
    have := ih (i + 1)
    rw [needGo]
    split <;> simp <;> omega
def needSays (l : List Clu) : List Int × Bool := if cluOk l = true then (needGo l l.length 0, true) else ([], false)
theorem needSays_len (l : List Clu) : (needSays l).1.length ≤ 6 := by
  unfold needSays
  split
  · rename_i h
    exact Nat.le_trans (needGo_len _ _ _) (aAll_of h).1
  · simp
/-! ### impl_NeedlessClues -/
theorem impl_NeedlessClues_loop {l : List Clu} (hl : aAll l) (d : Nat) : ∀ (i : Nat) (acc : List Int), i + d = l.length → acc.length ≤ i → Ev (fun k => impl_NeedlessClues.l0 k ((sols l).length : Int) (l.length : Int) (i : Int) l acc) (acc ++ needGo l d i, true) := by
  have hlen := hl.1
  induction d with
  | zero =>
    intro i acc hi ha
    refine ev_s ?_
    simp only [impl_NeedlessClues.b0, impl_NeedlessClues.l0, decide_eq_true_eq, Bool.not_eq_true', Bool.not_eq_false', beq_iff_eq, bne_iff_ne, ne_eq, beq_eq_false_iff_ne, bne_eq_false_iff_eq, decide_eq_false_iff_not, Option.bind_some, dlen, dlenN, if_neg (show ¬ (i : Int) < (l.length : Int) by omega)]
    exact ev_now (by simp [needGo])
  | succ d ih =>
    intro i acc hi ha
    refine ev_s ?_
    rw [needGo]
    simp (disch := omega) only [impl_NeedlessClues.b0, impl_NeedlessClues.l0, decide_eq_true_eq, Bool.not_eq_true', Bool.not_eq_false', beq_iff_eq, bne_iff_ne, ne_eq, beq_eq_false_iff_ne, bne_eq_false_iff_eq, decide_eq_false_iff_not, Option.bind_some, dlen, dlenN, if_pos (show (i : Int) < (l.length : Int) by omega), impl_withoutClue_eq (show l.length ≤ 1000 by omega) (show i < l.length by omega), w64, cs1]
    refine Ev.bind (impl_solutions_eq (aAll_sub hl (dropAt_sub l i))) ?_
    by_cases h1 : ((sols (dropAt l i)).length : Int) = ((sols l).length : Int)
    · rw [if_pos h1]
      simp only [if_pos h1, if_pos (show acc.length + 1 ≤ 17592186044416 by omega)]
      rw [show acc ++ (i : Int) :: needGo l d (i + 1) = acc ++ [(i : Int)] ++ needGo l d (i + 1) by simp]
      exact ih (i + 1) _ (by omega) (by simp; omega)
    · rw [if_neg h1]
      simp only [if_neg h1]
      exact ih (i + 1) _ (by omega) (by omega)
theorem impl_NeedlessClues_eq (l : List Clu) : Ev (fun k => impl_NeedlessClues.f k l) (needSays l) := by
  unfold impl_NeedlessClues.f impl_NeedlessClues.b needSays
  refine Ev.bind (impl_IsPuzzle_eq l) ?_
  by_cases h : cluOk l = true
  · have hl := aAll_of h
    simp only [h, Bool.not_true, Bool.false_eq_true, if_false, if_true]
    refine Ev.bind (impl_solutions_eq hl) ?_
    exact impl_NeedlessClues_loop hl l.length 0 [] (by omega) (by simp)
  · rw [Bool.not_eq_true] at h
    simp only [h, Bool.not_false, if_true, Bool.false_eq_true, if_false]
    exact Ev.now _
/-! ### laws_qSnails -/
theorem laws_qSnails_loop {l : List Sna} (hl : l.length ≤ 9223372036854775806) (d : Nat) : ∀ i : Nat, i + d = l.length → Ev (fun k => laws_qSnails.l0 k l l (l.length : Int) (i : Int)) true := by
  induction d with
  | zero =>
    intro i hi
    refine ev_s ?_
    simp only [laws_qSnails.b0, laws_qSnails.l0, decide_eq_true_eq, Bool.not_eq_true', Bool.not_eq_false', beq_iff_eq, bne_iff_ne, ne_eq, beq_eq_false_iff_ne, bne_eq_false_iff_eq, decide_eq_false_iff_not, Option.bind_some, dlen, dlenN, if_neg (show ¬ (i : Int) < l.length by omega)]
    exact Ev.now _
  | succ d ih =>
    intro i hi
    refine ev_s ?_
    simp (disch := omega) only [laws_qSnails.b0, laws_qSnails.l0, decide_eq_true_eq, Bool.not_eq_true', Bool.not_eq_false', beq_iff_eq, bne_iff_ne, ne_eq, beq_eq_false_iff_ne, bne_eq_false_iff_eq, decide_eq_false_iff_not, Option.bind_some, dlen, dlenN, if_pos (show (i : Int) < l.length by omega), if_pos (show 0 ≤ (i : Int) by omega), beq_self_eq_true, Bool.and_self, Bool.true_eq_false, if_false, w64, cs1]
    exact ih (i + 1) (by omega)
theorem laws_qSnails_same {l : List Sna} (hl : l.length ≤ 9223372036854775806) : Ev (fun k => laws_qSnails.f k l l) true := by
  simp only [laws_qSnails.b, laws_qSnails.f, decide_eq_true_eq, Bool.not_eq_true', Bool.not_eq_false', beq_iff_eq, bne_iff_ne, ne_eq, beq_eq_false_iff_ne, bne_eq_false_iff_eq, decide_eq_false_iff_not, Option.bind_some, dlen, dlenN, not_true_eq_false, if_false]
  exact laws_qSnails_loop hl l.length 0 (by omega)
/-! ### spec_DrawAddClue -/
theorem spec_DrawAddClue_some {s : List Int} (hs : AllBytes s) : ∃ r, Ev (fun k => spec_DrawAddClue.f k s) r ∧ r.1.length ≤ 8 := by
  unfold spec_DrawAddClue.f spec_DrawAddClue.b
  refine (spec_l1Cur_puzzle_some hs 0 (by omega) (by omega)).done fun v a1 e _ _ h => ?_
  dsimp only
  exact (spec_l1Cur_clue_some hs e (by omega) (by omega)).ev.done fun w a2 e _ _ _ => ⟨(v, w), Ev.now _, by show v.length ≤ 8; omega⟩
/-! ### base_add -/
def addSays (l : List Clu) (c : Clu) : List Clu × Bool := if cluOk (l ++ [c]) = true then (l ++ [c], true) else ([], false)
theorem cluOk_snoc (l : List Clu) (c : Clu) : cluOk (l ++ [c]) = true ↔ cluOk l = true ∧ cGood c = true ∧ l.length ≠ 6 := by
  unfold cluOk
  rw [List.length_append, List.all_append]
  simp only [Bool.and_eq_true, decide_eq_true_eq, List.all_cons, List.all_nil, List.length_cons, List.length_nil, and_true]
  constructor
  · rintro ⟨h1, h2, h3⟩
    exact ⟨⟨by omega, h2⟩, h3, by omega⟩
  · rintro ⟨⟨h1, h2⟩, h3, h4⟩
    exact ⟨by omega, h2, h3⟩
theorem addSays_len (l : List Clu) (c : Clu) : (addSays l c).1.length ≤ 6 := by
  unfold addSays
  split
  · rename_i h
    have := of_decide_eq_true (by unfold cluOk at h; rw [Bool.and_eq_true] at h; exact h.1 : decide ((l ++ [c]).length ≤ 6) = true)
    exact this
  · simp
/-! ### impl_AddClue -/
theorem impl_AddClue_eq {l : List Clu} (hl : l.length ≤ 5864062014804) (a b c : Int) : Ev (fun k => impl_AddClue.f k l a b c) (addSays l (a, b, c)) := by
  unfold impl_AddClue.f impl_AddClue.b addSays
  simp only [Clone_Clue_eq (show l.length ≤ 5864062014805 by omega), Option.bind_some, dlenN, if_pos (show l.length + 1 ≤ 5864062014805 by omega)]
  refine Ev.bind (impl_IsPuzzle_eq _) ?_
  by_cases h : cluOk (l ++ [(a, b, c)]) = true
  · simp only [h, Bool.not_true, Bool.false_eq_true, if_false, if_true]
    exact Ev.now _
  · rw [Bool.not_eq_true] at h
    simp only [h, Bool.not_false, if_true, Bool.false_eq_true, if_false]
    exact Ev.now _
/-! ### spec_AddClue -/
theorem spec_AddClue_eq (l : List Clu) (a b c : Int) : Ev (fun k => spec_AddClue.f k l a b c) (addSays l (a, b, c)) := by
  unfold spec_AddClue.f spec_AddClue.b addSays
  refine Ev.bind (spec_pzGood_eq l) ?_
  by_cases h : cluOk l = true
  · have h6' := (aAll_of h).1
    simp only [h, Bool.not_true, Bool.false_eq_true, if_false, spec_pzClue_eq, Option.bind_some]
    by_cases hc : clueOk a b c = true
    · simp only [hc, Bool.not_true, Bool.false_eq_true, if_false, dlen, beq_iff_eq]
      by_cases h6 : l.length = 6
      · simp only [if_pos (show (l.length : Int) = 6 by omega), if_neg (show ¬ cluOk (l ++ [(a, b, c)]) = true from fun h' => ((cluOk_snoc _ _).1 h').2.2 h6)]
        exact Ev.now _
      · simp only [if_neg (show ¬ (l.length : Int) = 6 by omega), dlenN, List.nil_append, if_pos (show 0 + l.length ≤ 5864062014805 by omega), if_pos (show l.length + 1 ≤ 5864062014805 by omega), if_pos ((cluOk_snoc l (a, b, c)).2 ⟨h, hc, h6⟩)]
        exact Ev.now _
    · simp only [if_neg (show ¬ cluOk (l ++ [(a, b, c)]) = true from fun h' => hc ((cluOk_snoc _ _).1 h').2.1)]
      rw [Bool.not_eq_true] at hc
      simp only [hc, Bool.not_false, if_true]
      exact Ev.now _
  · simp only [if_neg (show ¬ cluOk (l ++ [(a, b, c)]) = true from fun h' => h ((cluOk_snoc _ _).1 h').1)]
    rw [Bool.not_eq_true] at h
    simp only [h, Bool.not_false, if_true]
    exact Ev.now _
/-! ### spec_DrawDropClue -/
theorem spec_DrawDropClue_some {s : List Int} (hs : AllBytes s) : ∃ r, Ev (fun k => spec_DrawDropClue.f k s) r ∧ r.1.length ≤ 8 := by
  unfold spec_DrawDropClue.f spec_DrawDropClue.b
  refine (spec_l1Cur_puzzle_some hs 0 (by omega) (by omega)).done fun v a1 e _ _ h => ?_
  dsimp only
  refine (spec_l1Cur_pick_some hs e 6 (by omega) (by omega)).ev.done fun u a2 e _ _ _ => ?_
  dsimp only
  exact (spec_l1Cur_pick_some hs e 9 (by omega) (by omega)).ev.done fun w a3 e _ _ _ => ⟨(v, _), Ev.now _, by show v.length ≤ 8; omega⟩
/-! ### impl_DropClue -/
theorem impl_DropClue_eq (l : List Clu) (i : Int) : Ev (fun k => impl_DropClue.f k l i) (dropSays l i) := by
  unfold impl_DropClue.f impl_DropClue.b dropSays
  refine Ev.bind (impl_IsPuzzle_eq l) ?_
  by_cases h : cluOk l = true
  · have h6 := (aAll_of h).1
    simp (disch := omega) only [h, Bool.not_true, Bool.false_eq_true, if_false, dlen, w64, impl_within_eq, Option.bind_some, true_and, Bool.not_eq_true', decide_eq_false_iff_not]
    by_cases hi : 0 ≤ i ∧ i < (l.length : Int)
    · obtain ⟨n, rfl⟩ : ∃ n : Nat, i = (n : Int) := ⟨i.toNat, by omega⟩
      simp only [if_neg (show ¬ ¬ (0 ≤ (n : Int) ∧ (n : Int) ≤ (l.length : Int) - 1) by omega), impl_withoutClue_eq (show l.length ≤ 1000 by omega) (show n < l.length by omega), Option.bind_some, if_pos hi]
      exact Ev.now _
    · simp only [if_pos (show ¬ (0 ≤ i ∧ i ≤ (l.length : Int) - 1) by omega), if_neg hi]
      exact Ev.now _
  · rw [Bool.not_eq_true] at h
    simp only [h, Bool.not_false, if_true, Bool.false_eq_true, false_and, if_false]
    exact Ev.now _
/-! ### spec_DropClue -/
theorem spec_DropClue_eq (l : List Clu) (i : Int) : Ev (fun k => spec_DropClue.f k l i) (dropSays l i) := by
  unfold spec_DropClue.f spec_DropClue.b dropSays
  refine Ev.bind (spec_pzGood_eq l) ?_
  by_cases h : cluOk l = true
  · have h6 := (aAll_of h).1
    simp (disch := omega) only [h, Bool.not_true, Bool.false_eq_true, if_false, dlen, w64, spec_l1In_eq, Option.bind_some, true_and, Bool.not_eq_true', decide_eq_false_iff_not]
    by_cases hi : 0 ≤ i ∧ i < (l.length : Int)
    · obtain ⟨n, rfl⟩ : ∃ n : Nat, i = (n : Int) := ⟨i.toNat, by omega⟩
      simp only [if_neg (show ¬ ¬ (0 ≤ (n : Int) ∧ (n : Int) ≤ (l.length : Int) - 1) by omega), spec_pzWithout_eq (show l.length ≤ 1000 by omega) (show n < l.length by omega), Option.bind_some, if_pos hi]
      exact Ev.now _
    · simp only [if_pos (show ¬ (0 ≤ i ∧ i ≤ (l.length : Int) - 1) by omega), if_neg hi]
      exact Ev.now _
  · rw [Bool.not_eq_true] at h
    simp only [h, Bool.not_false, if_true, Bool.false_eq_true, false_and, if_false]
    exact Ev.now _
/-! ### spec_DrawDoesFit -/
theorem spec_DrawDoesFit_some {s : List Int} (hs : AllBytes s) : ∃ r, Ev (fun k => spec_DrawDoesFit.f k s) r ∧ True := by
  unfold spec_DrawDoesFit.f spec_DrawDoesFit.b
  refine (spec_l1Cur_hidden_some hs 0 (by omega) (by omega)).ev.done fun v a1 e _ _ h => ?_
  dsimp only
  refine (pick_lt hs e (n := 10000) (by omega) (by omega) (by omega)).ev.done fun u a2 e _ _ hu => ?_
  refine ev_val (spec_MakePuzzle_eq v.1 v.2 1 u) ?_
  have e1 : makeSays v.1 v.2 1 u = (mkL v.1 v.2 1 u, true) := if_pos ⟨h, by omega, by omega⟩
  have e2 : 0 < dlen (mkL v.1 v.2 1 u) := by simp only [dlen, mkL_len]; omega
  simp only [e1, if_true]
  refine (spec_l1Cur_one_some hs e 3 (by omega) (by omega)).ev.done fun b a3 e _ _ _ => ?_
  by_cases hb : b = true
  · simp only [if_pos hb, if_pos e2]
    exact ⟨_, Ev.now _, trivial⟩
  · simp only [if_neg hb]
    refine (spec_l1Cur_one_some hs e 10 (by omega) (by omega)).ev.done fun c a4 e _ _ _ => ?_
    by_cases hc : c = true
    · simp only [if_pos hc]
      refine (spec_l1Cur_snail_some hs e (by omega) (by omega)).ev.done fun x a5 e _ _ _ => ?_
      dsimp only
      exact (spec_l1Cur_clue_some hs e (by omega) (by omega)).ev.done fun w a2 e _ _ _ => ⟨_, Ev.now _, trivial⟩
    · simp only [if_neg hc]
      exact (spec_l1Cur_clue_some hs e (by omega) (by omega)).ev.done fun w a2 e _ _ _ => ⟨_, Ev.now _, trivial⟩
/-! ### spec_DoesFit -/
theorem spec_DoesFit_eq (kind a b up dn : Int) : spec_DoesFit.f kind a b up dn = some (fitSays kind a b up dn) := by
  simp only [spec_DoesFit.b, spec_DoesFit.f, spec_pzClue_eq, spec_pzHidden_eq, decide_eq_true_eq, Bool.not_eq_true', Bool.not_eq_false', beq_iff_eq, bne_iff_ne, ne_eq, beq_eq_false_iff_ne, bne_eq_false_iff_eq, decide_eq_false_iff_not, Option.bind_some, dlen, dlenN, fitSays]
  by_cases hc : clueOk kind a b = true
  · by_cases h : hidOk up dn
    · simp only [hc, h, decide_true, Bool.true_eq_false, if_false, not_true_eq_false, spec_pzFits_eq h (aOk_of hc), Option.bind_some, and_self, if_true]
    · simp only [hc, h, Bool.true_eq_false, if_false, not_false_eq_true, if_true, Option.bind_some, false_and]
  · rw [Bool.not_eq_true] at hc
    simp only [hc, if_true, Bool.false_eq_true, and_false, if_false, ite_self]
/-! ### spec_DrawIsClue -/
theorem spec_DrawIsClue_some {s : List Int} (hs : AllBytes s) : ∃ r, spec_DrawIsClue.f s = some r := by
  unfold spec_DrawIsClue.f spec_DrawIsClue.b
  refine (spec_l1Cur_one_some hs 0 3 (by omega) (by omega)).done fun v a1 e _ _ _ => ?_
  by_cases hv : v = true
  · simp only [if_pos hv]
    refine (spec_l1Cur_pick_some hs e 6 (by omega) (by omega)).done fun v a2 e _ _ _ => ?_
    dsimp only
    refine (spec_l1Cur_pick_some hs e 9 (by omega) (by omega)).done fun v a3 e _ _ _ => ?_
    dsimp only
    refine (spec_l1Cur_among_some hs e (by simp) (by omega) (by omega)).done fun v a3 e _ _ _ => ?_
    dsimp only
    exact (spec_l1Cur_among_some hs e (by simp) (by omega) (by omega)).done fun v a3 e _ _ _ => ⟨_, rfl⟩
  · simp only [if_neg hv]
    exact (spec_l1Cur_clue_some hs e (by omega) (by omega)).done fun v a3 e _ _ _ => ⟨_, rfl⟩
/-! ### spec_IsClue -/
theorem spec_IsClue_eq (kind a b : Int) : spec_IsClue.f kind a b = some (clueOk kind a b) := by
  simp only [spec_IsClue.b, spec_IsClue.f, spec_pzClue_eq, Option.bind_some]
/-! ### base_hid -/
theorem fitAll_sub {l l' : List Clu} (h : ∀ v ∈ l', v ∈ l) {up dn : Int} (hf : fitAll l up dn = true) : fitAll l' up dn = true := by
  unfold fitAll at *
  rw [List.all_eq_true] at *
  exact fun v hv => hf v (h v hv)
theorem solD_sub {l l' : List Clu} (h : ∀ v ∈ l', v ∈ l) (up : Int) (d : Nat) : ∀ j, (solD l up d j).Sublist (solD l' up d j) := by
  induction d with
  | zero => intro j; exact List.Sublist.refl _
  | succ d ih =>
    intro j
    simp only [solD]
    refine List.Sublist.append ?_ (ih (j + 1))
    by_cases hf : fitAll l up j = true
    · rw [if_pos hf, if_pos (fitAll_sub h hf)]
      exact List.Sublist.refl _
    · rw [if_neg hf]
      exact List.nil_sublist _
theorem solU_sub {l l' : List Clu} (h : ∀ v ∈ l', v ∈ l) (d : Nat) : ∀ i, (solU l d i).Sublist (solU l' d i) := by
  induction d with
  | zero => intro i; exact List.Sublist.refl _
  | succ d ih =>
    intro i
    simp only [solU]
    exact List.Sublist.append (solD_sub h _ _ _) (ih (i + 1))
theorem sols_sub {l l' : List Clu} (h : ∀ v ∈ l', v ∈ l) : (sols l).Sublist (sols l') := solU_sub h 12 1
theorem sols_same {l l' : List Clu} (h : ∀ v ∈ l', v ∈ l) (he : (sols l).length = (sols l').length) : sols l = sols l' := (sols_sub h).eq_of_length he
theorem drop_drop_sub {α : Type} (l : List α) {i j : Nat} (hj : j < i) : (dropAt (dropAt l i) j).Sublist (dropAt l j) := by
  unfold dropAt
  by_cases hi : i ≤ l.length
  · have hl : (l.take i).length = i := by rw [List.length_take]; omega
    rw [List.take_append_of_le_length (by omega), List.drop_append_of_le_length (by omega), List.take_take, show min j i = j by omega]
    refine List.Sublist.append (List.Sublist.refl _) ?_
    have e : l.drop (j + 1) = (l.take i).drop (j + 1) ++ l.drop i := by
      conv => lhs; rw [← List.take_append_drop i l]
      rw [List.drop_append_of_le_length (by omega)]
    rw [e]
    refine List.Sublist.append (List.Sublist.refl _) ?_
    rw [← List.drop_drop]
    exact List.drop_sublist _ _
  · rw [List.take_of_length_le (show l.length ≤ i by omega), List.drop_eq_nil_of_le (show l.length ≤ i + 1 by omega), List.append_nil]
    exact List.Sublist.refl _
/-- Behind the taking out: one solution still, all clues from the list, and none of them can go. -/
theorem hardGo_is (n : Nat) : ∀ (l : List Clu) (i : Nat), (sols l).length = 1 → l.length ≤ n + i → (∀ j, j < i → (sols (dropAt l j)).length ≠ 1) →
    ((sols (hardGo n l i)).length = 1 ∧ (hardGo n l i).Sublist l) ∧ ∀ j, j < (hardGo n l i).length → (sols (dropAt (hardGo n l i) j)).length ≠ 1 := by
  induction n with
  | zero =>
    intro l i h1 h2 h3
    exact ⟨⟨h1, List.Sublist.refl _⟩, fun j hj => h3 j (by simp only [hardGo] at hj; omega)⟩
  | succ n ih =>
    intro l i h1 h2 h3
    rw [hardGo]
    by_cases hi : i < l.length
    · rw [if_pos hi]
      by_cases hs : ((sols (dropAt l i)).length : Int) = 1
      · rw [if_pos hs]
        have hl := dropAt_len hi
        obtain ⟨⟨a, b⟩, c⟩ := ih (dropAt l i) i (by omega) (by omega) (fun j hj => by
          have s1 := (sols_sub (l := dropAt l j) (l' := dropAt (dropAt l i) j) (fun v hv => (drop_drop_sub l hj).subset hv)).length_le
          have s2 := (sols_sub (l := l) (l' := dropAt l j) (fun v hv => (dropAt_sub l j).subset hv)).length_le
          have := h3 j hj
          omega)
        exact ⟨⟨a, b.trans (dropAt_sub l i)⟩, c⟩
      · rw [if_neg hs]
        exact ih l (i + 1) h1 (by omega) (fun j hj => by
          by_cases e : j = i
          · subst e; omega
          · exact h3 j (by omega))
    · rw [if_neg hi]
      exact ⟨⟨h1, List.Sublist.refl _⟩, fun j hj => h3 j (by omega)⟩
theorem needGo_nil {l : List Clu} (hl : (sols l).length = 1) (h : ∀ j, j < l.length → (sols (dropAt l j)).length ≠ 1) (d : Nat) : ∀ i, i + d = l.length → needGo l d i = [] := by
  induction d with
  | zero => intro i _; rfl
  | succ d ih =>
    intro i hi
    rw [needGo, if_neg (by have := h i (by omega); omega)]
    exact ih (i + 1) (by omega)
theorem told_ok {kind a up dn : Int} (hk : 0 ≤ kind ∧ kind ≤ 4) (ha : aOk kind a) (ha2 : (kind = 2 ∨ kind = 4) → a = 0) (h : hidOk up dn) : clueOk kind a (told kind a up dn) = true := by
  unfold hidOk at h
  unfold aOk at ha
  unfold clueOk told
  by_cases k0 : kind = 0
  · rw [if_pos k0, if_pos k0]
    have hA := ha.1 (Or.inl k0)
    apply decide_eq_true
    refine ⟨hA, ?_⟩
    by_cases h1 : a ≤ up
    · rw [if_pos h1]; omega
    · rw [if_neg h1]
      by_cases h2 : up ≤ dn
      · rw [if_pos h2]; omega
      · rw [if_neg h2]
        rw [Int.tdiv_eq_ediv_of_nonneg (by omega)]
        have q0 : 0 ≤ (a - up + (up - dn) - 1) / (up - dn) := Int.ediv_nonneg (by omega) (by omega)
        have q1 : (a - up + (up - dn) - 1) / (up - dn) ≤ a - up := by
          apply Int.ediv_le_of_le_mul (by omega)
          have := (mulb (a := a - up - 1) (b := up - dn - 1) (A := 100) (B := 12) (by omega) (by omega) (by omega) (by omega)).1
          have e : (a - up - 1) * (up - dn - 1) = (a - up) * (up - dn) - (a - up) - (up - dn) + 1 := by
            rw [Int.sub_mul, Int.mul_sub]; omega
          omega
        omega
  · rw [if_neg k0, if_neg k0]
    by_cases k1 : kind = 1
    · rw [if_pos k1, if_pos k1]
      have hA := ha.1 (Or.inr k1)
      apply decide_eq_true
      refine ⟨hA, ?_⟩
      by_cases h2 : up ≤ dn
      · rw [if_pos h2]; omega
      · rw [if_neg h2]
        have := (mulb (a := a - 1) (b := up - dn) (A := 100) (B := 12) (by omega) (by omega) (by omega) (by omega)).1
        omega
    · rw [if_neg k1, if_neg k1]
      by_cases k2 : kind = 2
      · rw [if_pos k2, if_pos k2]
        apply decide_eq_true
        exact ⟨ha2 (Or.inl k2), by omega⟩
      · rw [if_neg k2, if_neg k2]
        by_cases k3 : kind = 3
        · rw [if_pos k3, if_pos k3]
          have hA := ha.2 k3
          apply decide_eq_true
          refine ⟨hA, ?_⟩
          split <;> omega
        · rw [if_neg k3, if_neg k3]
          apply decide_eq_true
          have k4 : kind = 4 := by omega
          exact ⟨k4, ha2 (Or.inr k4), by omega⟩
theorem mkC_good {up dn z : Int} (h : hidOk up dn) (hz : 0 ≤ z) : cGood (mkC up dn z) = true ∧ told (mkC up dn z).f0 (mkC up dn z).f1 up dn = (mkC up dn z).f2 := by
  have h1 := nxt_bd hz
  have h2 := nxt_bd h1.1
  have h5 := (tm_bd h1.1).2.2
  refine ⟨?_, rfl⟩
  unfold cGood mkC
  refine told_ok ⟨h5.1, h5.2⟩ (mkA_ok h2.1) ?_ h
  intro hk
  have hk' : Int.tmod (nxt z) 5 = 2 ∨ Int.tmod (nxt z) 5 = 4 := hk
  show mkA (Int.tmod (nxt z) 5) (nxt (nxt z)) = 0
  unfold mkA
  rw [if_neg (by omega), if_neg (by omega)]
theorem mkL_good {up dn : Int} (h : hidOk up dn) (n : Nat) : ∀ z, 0 ≤ z → ∀ v ∈ mkL up dn n z, cGood v = true ∧ told v.f0 v.f1 up dn = v.f2 := by
  induction n with
  | zero => intro z _ v hv; simp [mkL] at hv
  | succ n ih =>
    intro z hz v hv
    simp only [mkL] at hv
    rcases List.mem_cons.1 hv with rfl | hv
    · exact mkC_good h hz
    · exact ih _ (nxt_bd (nxt_bd hz).1).1 v hv
/-! ### base_hid2 -/
theorem Ev.next {α : Type} {g : Nat → Option α} {r : α} (h : Ev g r) : Ev (fun k => g (k + 1)) r := by
  obtain ⟨K, h⟩ := h
  exact ⟨K, fun k hk => h (k + 1) (by omega)⟩
theorem ev_of {α : Type} {x : Option α} {r : α} (h : x = some r) : Ev (fun _ => x) r := ⟨0, fun _ _ => h⟩
theorem cluOk_sub {l l' : List Clu} (h : cluOk l = true) (hs : l'.Sublist l) : cluOk l' = true := by
  unfold cluOk at *
  rw [Bool.and_eq_true, List.all_eq_true, decide_eq_true_eq] at *
  exact ⟨Nat.le_trans hs.length_le h.1, fun v hv => h.2 v (hs.subset hv)⟩
theorem drop_last {l : List Clu} {c : Clu} (h : cluOk (l ++ [c]) = true) : dropSays (l ++ [c]) (l.length : Int) = (l, true) := by
  unfold dropSays
  rw [if_pos ⟨h, by omega, by simp; omega⟩]
  simp [dropAt]
theorem rd_last (l : List Clu) (z c : Clu) : rd z (l ++ [c]) (l.length : Int) = c := by simp [rd_nat]
theorem add_last {l : List Clu} (h : cluOk l = true) {n : Nat} (hn : n + 1 = l.length) : addSays (dropAt l n) ((l.getD n (0, 0, 0)).1, (l.getD n (0, 0, 0)).2.1, (l.getD n (0, 0, 0)).2.2) = (l, true) := by
  have e : dropAt l n ++ [((l.getD n (0, 0, 0)).1, (l.getD n (0, 0, 0)).2.1, (l.getD n (0, 0, 0)).2.2)] = l := by
    have e1 := take_snoc' ((0, 0, 0) : Clu) (show n < l.length by omega)
    rw [List.take_of_length_le (by omega)] at e1
    unfold dropAt
    rw [List.drop_eq_nil_of_le (by omega), List.append_nil]
    exact e1.symm
  unfold addSays
  rw [e, if_pos h]
/-- Adding what was dropped from the end. -/
theorem law_H {p : List Clu} (hp : p.length ≤ 5864062014804) (i : Int) : Ev (fun k => if (dropSays p i).2 = true then (if (i == (wrap64 ((dlen p) - 1))) = true then (if 0 ≤ i then (if i < (dlen p) then ((impl_AddClue.f k (dropSays p i).1 (rd (0, (0, 0)) p i).1 (rd (0, (0, 0)) p i).2.1 (rd (0, (0, 0)) p i).2.2).bind fun t21 =>
 if t21.2 = true then ((laws_qClues.f k t21.1 p).bind fun t22 =>
 some t22) else (some false)) else (none)) else (none)) else (some true)) else (some true)) true := by
  by_cases hd : cluOk p = true ∧ 0 ≤ i ∧ i < (p.length : Int)
  · have e : dropSays p i = (dropAt p i.toNat, true) := if_pos hd
    obtain ⟨hc, h0, h1⟩ := hd
    have hl := (dropAt_sub p i.toNat).length_le
    simp only [e, if_true]
    rw [w64 (x := dlen p - 1) (by simp only [dlen]; omega) (by simp only [dlen]; omega)]
    by_cases hi : i = dlen p - 1
    · obtain ⟨n, rfl⟩ : ∃ n : Nat, i = (n : Int) := ⟨i.toNat, by omega⟩
      simp only [if_pos (show ((n : Int) == dlen p - 1) = true by rw [hi]; exact beq_self_eq_true _), if_pos h0, if_pos (show (n : Int) < dlen p from h1), castsub, rd_nat]
      refine Ev.bind (impl_AddClue_eq (by rw [castsub] at hl; omega) _ _ _) ?_
      rw [add_last hc (by simp only [dlen] at hi; omega)]
      simp only [if_true]
      exact Ev.bind (laws_qClues_same (by omega)) (Ev.now _)
    · simp only [if_neg (show ¬ (i == dlen p - 1) = true by simpa using hi)]
      exact Ev.now _
  · have e : dropSays p i = ([], false) := if_neg hd
    simp only [e, Bool.false_eq_true, if_false]
    exact Ev.now _
theorem law_G {p q : List Clu} (hp : p.length ≤ 5864062014804) (hq : q.length ≤ 5864062014804) (i a b c : Int) : Ev (fun k => if (addSays q (a, b, c)).2 = true then ((impl_DropClue.f k (addSays q (a, b, c)).1 (dlen q)).bind fun t19 =>
 if (!t19.2) = true then (some false) else ((laws_qClues.f k t19.1 q).bind fun t20 =>
 if (!t20) = true then (some false) else (if 0 ≤ (dlen q) then (if (dlen q) < (dlen (addSays q (a, b, c)).1) then (if (!(((rd (0, (0, 0)) (addSays q (a, b, c)).1 (dlen q)).1 == a) && (((rd (0, (0, 0)) (addSays q (a, b, c)).1 (dlen q)).2.1 == b) && ((rd (0, (0, 0)) (addSays q (a, b, c)).1 (dlen q)).2.2 == c)))) = true then (some false) else (if (dropSays p i).2 = true then (if (i == (wrap64 ((dlen p) - 1))) = true then (if 0 ≤ i then (if i < (dlen p) then ((impl_AddClue.f k (dropSays p i).1 (rd (0, (0, 0)) p i).1 (rd (0, (0, 0)) p i).2.1 (rd (0, (0, 0)) p i).2.2).bind fun t21 =>
 if t21.2 = true then ((laws_qClues.f k t21.1 p).bind fun t22 =>
 some t22) else (some false)) else (none)) else (none)) else (some true)) else (some true))) else (none)) else (none)))) else (if (dropSays p i).2 = true then (if (i == (wrap64 ((dlen p) - 1))) = true then (if 0 ≤ i then (if i < (dlen p) then ((impl_AddClue.f k (dropSays p i).1 (rd (0, (0, 0)) p i).1 (rd (0, (0, 0)) p i).2.1 (rd (0, (0, 0)) p i).2.2).bind fun t19 =>
 if t19.2 = true then ((laws_qClues.f k t19.1 p).bind fun t20 =>
 some t20) else (some false)) else (none)) else (none)) else (some true)) else (some true))) true := by
  have hH := law_H hp i
  by_cases ha : cluOk (q ++ [(a, b, c)]) = true
  · have e : addSays q (a, b, c) = (q ++ [(a, b, c)], true) := if_pos ha
    simp only [e, if_true]
    refine Ev.bind (impl_DropClue_eq _ _) ?_
    rw [show dropSays (q ++ [(a, b, c)]) (dlen q) = (q, true) from drop_last ha]
    simp only [Bool.not_true, Bool.false_eq_true, if_false]
    refine Ev.bind (laws_qClues_same (by omega)) ?_
    have e1 : rd (0, (0, 0)) (q ++ [(a, b, c)]) (dlen q) = (a, b, c) := rd_last q (0, 0, 0) (a, b, c)
    simp only [Bool.not_true, Bool.false_eq_true, if_false, if_pos (show (0 : Int) ≤ dlen q by simp [dlen]), if_pos (show dlen q < dlen (q ++ [(a, b, c)]) by simp [dlen]; omega), e1, beq_self_eq_true, Bool.and_self]
    exact hH
  · have e : addSays q (a, b, c) = ([], false) := if_neg ha
    simp only [e, Bool.false_eq_true, if_false]
    exact hH
theorem fit_clue {kind a b up dn : Int} (h : (fitSays kind a b up dn).2 = true) : clueOk kind a b = true := by
  unfold fitSays at h
  split at h
  · rename_i h'; exact h'.2
  · cases h
theorem fit_told {kind a up dn : Int} (h : hidOk up dn) (hc : clueOk kind a (told kind a up dn) = true) : fitSays kind a (told kind a up dn) up dn = (true, true) := by
  unfold fitSays
  rw [if_pos ⟨h, hc⟩, beq_self_eq_true]
set_option maxHeartbeats 4000000 in
theorem law_tail {s : List Int} (hs : AllBytes s) (up dn : Int) {l : List Clu} {n m : Int} (hnm : ¬ n < m) :
    Ev (fun k => laws_FnSnailsHidden.l0 k s l m n up dn) true := by
  refine ev_s ?_
  simp only [laws_FnSnailsHidden.b0, laws_FnSnailsHidden.l0, decide_eq_true_eq, if_neg hnm]
  obtain ⟨p4, hp4, h4⟩ := spec_DrawHarderPuzzle_some hs
  obtain ⟨⟨p5, c6, c7, c8⟩, hp5, h5⟩ := spec_DrawAddClue_some hs
  obtain ⟨⟨p9, i⟩, hp9, h9⟩ := spec_DrawDropClue_some hs
  obtain ⟨⟨⟨c11, c12, c13⟩, u, d⟩, hfit, _⟩ := spec_DrawDoesFit_some hs
  obtain ⟨⟨c16, c17, c18⟩, hclu⟩ := spec_DrawIsClue_some hs
  dsimp only at h5 h9
  have hG := law_G (p := p9) (q := p5) (by omega) (by omega) i c6 c7 c8
  refine Ev.bind hp4 ?_
  refine Ev.bind (impl_HarderPuzzle_eq p4) (Ev.bind (spec_HarderPuzzle_eq p4) (Ev.bind (impl_IsSolved_eq p4) ?_))
  have hh6 := hardSays_len p4
  simp only [beq_self_eq_true, Bool.not_true, Bool.false_eq_true, if_false]
  refine Ev.bind (laws_qClues_same (by omega)) ?_
  simp only [Bool.not_true, Bool.false_eq_true, if_false]
  by_cases hc : cluOk p4 = true
  · have es : solvedSays p4 = (((sols p4).length : Int) == 1, true) := if_pos hc
    by_cases h1 : ((sols p4).length : Int) = 1
    · have eh : hardSays p4 = (hardGo p4.length p4 0, true) := if_pos ⟨hc, h1⟩
      obtain ⟨⟨g1, g2⟩, g3⟩ := hardGo_is p4.length p4 0 (by omega) (by omega) (fun j hj => absurd hj (by omega))
      have hck := cluOk_sub hc g2
      have e1 : solsSays p4 = (sols p4, true) := if_pos hc
      have e2 : solsSays (hardGo p4.length p4 0) = (sols p4, true) := by
        rw [sols_same (l := p4) (l' := hardGo p4.length p4 0) (fun v hv => g2.subset hv) (by omega)]
        exact if_pos hck
      have e3 : needSays (hardGo p4.length p4 0) = ([], true) := by
        unfold needSays
        rw [if_pos hck, needGo_nil g1 g3 _ 0 (by omega)]
      have hsl := sols_len p4
      have hgl := g2.length_le
      simp only [es, eh, h1, beq_self_eq_true, Bool.not_true, Bool.false_eq_true, if_false, if_true]
      refine Ev.bind (impl_Solutions_eq p4) (Ev.bind (impl_Solutions_eq _) (Ev.bind (impl_NeedlessClues_eq _) ?_))
      simp only [e1, e2, e3, Bool.not_true, Bool.false_eq_true, if_false]
      refine Ev.bind (laws_qSnails_same (by omega)) ?_
      simp only [Bool.not_true, Bool.false_eq_true, if_false, dlen, List.length_nil, bne_self_eq_false, decide_eq_true_eq, if_neg (show ¬ (((hardGo p4.length p4 0).length : Int) > (p4.length : Int)) by omega), show (((0 : Nat) : Int) != 0) = false by rfl]
      refine Ev.bind hp5 (Ev.bind (impl_AddClue_eq (by dsimp only; omega) _ _ _) (Ev.bind (spec_AddClue_eq _ _ _ _) (Ev.bind hp9 (Ev.bind (impl_DropClue_eq _ _) (Ev.bind (spec_DropClue_eq _ _) (Ev.bind hfit ?_))))))
      have ha6 := addSays_len p5 (c6, c7, c8)
      have hd6 := dropSays_len p9 i
      simp only [impl_DoesFit_eq, spec_DoesFit_eq, hclu, Option.bind_some, beq_self_eq_true, Bool.not_true, Bool.false_eq_true, if_false]
      refine Ev.bind (laws_qClues_same (by omega)) ?_
      simp only [Bool.not_true, Bool.false_eq_true, if_false]
      refine Ev.bind (laws_qClues_same (by omega)) ?_
      simp only [impl_IsClue_eq, spec_IsClue_eq, Option.bind_some, beq_self_eq_true, Bool.not_true, Bool.false_eq_true, if_false]
      by_cases hf : (fitSays c11 c12 c13 u d).2 = true
      · simp only [hf, if_true, fit_clue hf, Bool.not_true, Bool.false_eq_true, if_false]
        exact hG
      · rw [Bool.not_eq_true] at hf
        simp only [hf, Bool.false_eq_true, if_false]
        exact hG
    · have eh : hardSays p4 = ([], false) := if_neg (fun h => h1 h.2)
      simp only [es, eh, show (((sols p4).length : Int) == 1) = false by simpa using h1, beq_self_eq_true, Bool.not_true, Bool.false_eq_true, if_false, if_true]
      refine Ev.bind hp5 (Ev.bind (impl_AddClue_eq (by dsimp only; omega) _ _ _) (Ev.bind (spec_AddClue_eq _ _ _ _) (Ev.bind hp9 (Ev.bind (impl_DropClue_eq _ _) (Ev.bind (spec_DropClue_eq _ _) (Ev.bind hfit ?_))))))
      have ha6 := addSays_len p5 (c6, c7, c8)
      have hd6 := dropSays_len p9 i
      simp only [impl_DoesFit_eq, spec_DoesFit_eq, hclu, Option.bind_some, beq_self_eq_true, Bool.not_true, Bool.false_eq_true, if_false]
      refine Ev.bind (laws_qClues_same (by omega)) ?_
      simp only [Bool.not_true, Bool.false_eq_true, if_false]
      refine Ev.bind (laws_qClues_same (by omega)) ?_
      simp only [impl_IsClue_eq, spec_IsClue_eq, Option.bind_some, beq_self_eq_true, Bool.not_true, Bool.false_eq_true, if_false]
      by_cases hf : (fitSays c11 c12 c13 u d).2 = true
      · simp only [hf, if_true, fit_clue hf, Bool.not_true, Bool.false_eq_true, if_false]
        exact hG
      · rw [Bool.not_eq_true] at hf
        simp only [hf, Bool.false_eq_true, if_false]
        exact hG
  · have es : solvedSays p4 = (false, false) := if_neg hc
    have eh : hardSays p4 = ([], false) := if_neg (fun h => hc h.1)
    simp only [es, eh, beq_self_eq_true, Bool.not_true, Bool.false_eq_true, if_false]
    refine Ev.bind hp5 (Ev.bind (impl_AddClue_eq (by dsimp only; omega) _ _ _) (Ev.bind (spec_AddClue_eq _ _ _ _) (Ev.bind hp9 (Ev.bind (impl_DropClue_eq _ _) (Ev.bind (spec_DropClue_eq _ _) (Ev.bind hfit ?_))))))
    have ha6 := addSays_len p5 (c6, c7, c8)
    have hd6 := dropSays_len p9 i
    simp only [impl_DoesFit_eq, spec_DoesFit_eq, hclu, Option.bind_some, beq_self_eq_true, Bool.not_true, Bool.false_eq_true, if_false]
    refine Ev.bind (laws_qClues_same (by omega)) ?_
    simp only [Bool.not_true, Bool.false_eq_true, if_false]
    refine Ev.bind (laws_qClues_same (by omega)) ?_
    simp only [impl_IsClue_eq, spec_IsClue_eq, Option.bind_some, beq_self_eq_true, Bool.not_true, Bool.false_eq_true, if_false]
    by_cases hf : (fitSays c11 c12 c13 u d).2 = true
    · simp only [hf, if_true, fit_clue hf, Bool.not_true, Bool.false_eq_true, if_false]
      exact hG
    · rw [Bool.not_eq_true] at hf
      simp only [hf, Bool.false_eq_true, if_false]
      exact hG
theorem law_loop {s : List Int} (hs : AllBytes s) {up dn : Int} (h : hidOk up dn) {l : List Clu} (h6 : l.length ≤ 6)
    (hl : ∀ v ∈ l, cGood v = true ∧ told v.f0 v.f1 up dn = v.f2) (q : Nat) : ∀ j : Nat, j + q = l.length → Ev (fun k => laws_FnSnailsHidden.l0 k s l (l.length : Int) (j : Int) up dn) true := by
  induction q with
  | zero =>
    intro j hj
    exact law_tail hs up dn (by omega)
  | succ q ih =>
    intro j hj
    have hm : l.getD j (0, 0, 0) ∈ l := by
      rw [List.getD_eq_getElem?_getD, List.getElem?_eq_getElem (show j < l.length by omega)]
      exact List.getElem_mem _
    obtain ⟨k1, k2⟩ := hl _ hm
    have k3 : fitSays (l.getD j (0, 0, 0)).1 (l.getD j (0, 0, 0)).2.1 (l.getD j (0, 0, 0)).2.2 up dn = (true, true) := by
      have k2' : told (l.getD j (0, 0, 0)).1 (l.getD j (0, 0, 0)).2.1 up dn = (l.getD j (0, 0, 0)).2.2 := k2
      have k1' : clueOk (l.getD j (0, 0, 0)).1 (l.getD j (0, 0, 0)).2.1 (l.getD j (0, 0, 0)).2.2 = true := k1
      rw [← k2'] at k1' ⊢
      exact fit_told h k1'
    refine ev_s ?_
    simp only [laws_FnSnailsHidden.l0]
    unfold laws_FnSnailsHidden.b0
    refine Ev.eq (fun k => if_pos (decide_eq_true (show (j : Int) < (l.length : Int) by omega))) ?_
    refine Ev.eq (fun k => if_pos (show 0 ≤ (j : Int) by omega)) ?_
    refine Ev.eq (fun k => if_pos (show (j : Int) < dlen l by simp only [dlen]; omega)) ?_
    simp (disch := omega) only [rd_nat, impl_DoesFit_eq, k3, Option.bind_some, Bool.not_true, Bool.false_eq_true, if_false, w64, cs1]
    exact ih (j + 1) (by omega)
set_option maxHeartbeats 4000000 in
theorem FnSnailsHidden (l0 l1 : List Int) (m0 : l0.length * 1 ≤ 140737488351232) (f0 : ∀ z ∈ l0, (Lit.int .u8 z).wf = true) (m1 : l1.length * 1 ≤ 140737488351232) (f1 : ∀ z ∈ l1, (Lit.int .u8 z).wf = true) : ∃ k, laws_FnSnailsHidden.f k l0 l1 = some true := by
  have hc : AllBytes l0 := fun z hz => u8_wf' (f0 z hz)
  have hm : AllBytes l1 := fun z hz => u8_wf' (f1 z hz)
  refine Ev.rounds ?_
  unfold laws_FnSnailsHidden.f laws_FnSnailsHidden.b
  have hbig : laws_big.f l0 l1 = some (decide (1048576 < l0.length + l1.length)) := by
    unfold laws_big.f
    by_cases h : l0.length > 1048576
    · rw [if_pos (decide_eq_true (show dlen l0 > 1048576 by simp only [dlen]; omega)), dec_t (show 1048576 < l0.length + l1.length by omega)]
    · rw [if_neg (by simp only [dlen, decide_eq_true_eq]; omega)]
      simp only [dlen]
      rw [w64 (by omega) (by omega)]
      exact congrArg some (dec_e (by omega))
  rw [hbig]
  refine Ev.bind (ev_of rfl) ?_
  refine Ev.ite (fun _ => Ev.now _) (fun _ => ?_)
  obtain ⟨⟨⟨a0, a1⟩, a2, a3⟩, hd⟩ := spec_DrawMakePuzzle_some hc
  have hT := law_tail hm a0 a1 (l := []) (n := 0) (m := 0) (by omega)
  refine Ev.bind (ev_of hd) ?_
  refine Ev.bind (impl_MakePuzzle_eq a0 a1 a2 a3) (Ev.bind (spec_MakePuzzle_eq a0 a1 a2 a3) ?_)
  have hlen := makeSays_len a0 a1 a2 a3
  simp only [beq_self_eq_true, Bool.not_true, Bool.false_eq_true, if_false]
  refine Ev.bind (laws_qClues_same (by omega)) ?_
  simp only [Bool.not_true, Bool.false_eq_true, if_false]
  by_cases hmk : hidOk a0 a1 ∧ (0 ≤ a2 ∧ a2 ≤ 6) ∧ 0 ≤ a3 ∧ a3 ≤ 9999
  · have e : makeSays a0 a1 a2 a3 = (mkL a0 a1 a2.toNat a3, true) := if_pos hmk
    obtain ⟨h, hn, hz⟩ := hmk
    have h' := h
    unfold hidOk at h'
    have hg := mkL_good h a2.toNat a3 hz.1
    have hll := mkL_len a0 a1 a2.toNat a3
    have hck : cluOk (mkL a0 a1 a2.toNat a3) = true := by
      unfold cluOk
      rw [Bool.and_eq_true, List.all_eq_true, decide_eq_true_eq]
      exact ⟨by omega, fun v hv => (hg v hv).1⟩
    have c0 : clueOk 0 50 (told 0 50 a0 a1) = true := told_ok (by omega) (by unfold aOk; omega) (by omega) h
    have c1 : clueOk 1 7 (told 1 7 a0 a1) = true := told_ok (by omega) (by unfold aOk; omega) (by omega) h
    have c4 : clueOk 4 0 (told 4 0 a0 a1) = true := told_ok (by omega) (by unfold aOk; omega) (by omega) h
    have e4 : told 4 0 a0 a1 = a0 - a1 := by unfold told; rfl
    have q0 := fit_told h c0
    have q1 := fit_told h c1
    have q4 := fit_told h c4
    rw [e4] at q4
    have hpos : 0 ≤ told 0 50 a0 a1 := by
      unfold clueOk at c0
      rw [if_pos rfl] at c0
      have := of_decide_eq_true c0
      omega
    have hL := law_loop hm h (l := mkL a0 a1 a2.toNat a3) (by omega) hg (mkL a0 a1 a2.toNat a3).length 0 (by omega)
    rw [e]
    refine Ev.eq (fun k => if_pos rfl) ?_
    rw [w64 (x := a0 - a1) (by omega) (by omega)]
    refine Ev.bind (ev_of (impl_DaysToTop_yes h)) (Ev.bind (ev_of (impl_DoesFit_eq _ _ _ _ _)) (Ev.bind (ev_of (impl_EveningHeight_yes h)) (Ev.bind (ev_of (impl_DoesFit_eq _ _ _ _ _)) (Ev.bind (ev_of (impl_DoesFit_eq _ _ _ _ _)) (Ev.bind (impl_IsPuzzle_eq _) ?_)))))
    dsimp only
    rw [q0, q1, q4]
    have hd : ((dlen (mkL a0 a1 a2.toNat a3)) != a2) = false := by
      rw [bne_eq_false_iff_eq]
      show ((mkL a0 a1 a2.toNat a3).length : Int) = a2
      omega
    simp only [hck, hd, Bool.not_true, Bool.false_eq_true, if_false]
    by_cases hp : told 0 50 a0 a1 > 0
    · simp only [dec_t hp, Bool.not_true, Bool.false_eq_true, if_false]
      exact hL
    · have h0 : told 0 50 a0 a1 = 0 := by omega
      simp only [h0, dec_f (show ¬ (0 : Int) > 0 by omega), Bool.not_false, if_true, bne_self_eq_false, Bool.false_eq_true, if_false]
      exact hL
  · have e : makeSays a0 a1 a2 a3 = ([], false) := if_neg hmk
    rw [e]
    refine Ev.eq (fun k => if_neg (by decide)) ?_
    have hT' := Ev.next hT
    simp only [laws_FnSnailsHidden.l0] at hT'
    unfold laws_FnSnailsHidden.b0 at hT'
    refine Ev.eq (fun k => ?_) hT'
    exact (if_neg (by decide)).symm
end Go.Proofs.Ytnpfeemkichniaa.Hi
