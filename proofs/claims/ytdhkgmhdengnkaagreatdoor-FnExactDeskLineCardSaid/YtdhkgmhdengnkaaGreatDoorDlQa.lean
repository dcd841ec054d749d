/- The plain law (part 1 of 2). -/
import Derived.Test.YtdhkgmhdengnkaaGreatDoorPc
import Derived.Test.YtdhkgmhdengnkaaGreatDoorDlF4
import Derived.Lib.AtoiTie
import Derived.Lib.AtoiAllCases
namespace Go.Proofs.YtdhkgmhdengnkaaGreatDoor.Dl
open Go Go.Proofs.YtdhkgmhdengnkaaGreatDoorPi Go.RowKit
set_option linter.unusedVariables false
set_option linter.unusedSimpArgs false
set_option maxHeartbeats 1000000
theorem castsub {i : Nat} : ((i : Int)).toNat = i := by omega
theorem drop_cons {α : Type} (z : α) {l : List α} {i : Nat} (h : i < l.length) : l.drop i = l.getD i z :: l.drop (i + 1) := by
  rw [List.drop_eq_getElem_cons h, List.getD_eq_getElem?_getD, List.getElem?_eq_getElem h]; rfl
theorem take_snoc' {α : Type} (z : α) {l : List α} {i : Nat} (h : i < l.length) : l.take (i + 1) = l.take i ++ [l.getD i z] := by
  rw [List.take_succ_eq_append_getElem h, List.getD_eq_getElem?_getD, List.getElem?_eq_getElem h]; rfl
theorem getD_mem {α : Type} {z : α} {l : List α} {i : Nat} (h : i < l.length) : l.getD i z ∈ l := by
  rw [List.getD_eq_getElem?_getD, List.getElem?_eq_getElem h]
  exact List.getElem_mem h
theorem fill_step {α β : Type} (g : α → β) (za : α) (zb : β) {l : List α} {i : Nat} (h : i < l.length) :
    ((l.take i).map g ++ List.replicate (l.length - i) zb).set i (g (l.getD i za)) = (l.take (i + 1)).map g ++ List.replicate (l.length - (i + 1)) zb := by
  rw [take_snoc' za h, List.map_append, List.set_append_right _ _ (by simp; omega)]
  have e : i - ((l.take i).map g).length = 0 := by simp; omega
  rw [e, show l.length - i = (l.length - (i + 1)) + 1 by omega, List.replicate_succ, List.set_cons_zero]
  simp
theorem fill_len {α β : Type} (g : α → β) (zb : β) {l : List α} {i : Nat} (h : i ≤ l.length) : ((l.take i).map g ++ List.replicate (l.length - i) zb).length = l.length := by
  simp; omega
def bL (l : List UInt8) : ByteArray := ⟨l.toArray⟩
theorem bs_bL (l : List Nat) : bs l = bL (l.map UInt8.ofNat) := rfl
theorem bL_app (a b : List UInt8) : bL a ++ bL b = bL (a ++ b) := by
  apply ByteArray.ext
  simp [bL, ByteArray.data_append]
theorem bL_size (l : List UInt8) : (bL l).size = l.length := by simp [bL, ByteArray.size]
theorem bL_toL (s : ByteArray) : bL s.data.toList = s := by
  apply ByteArray.ext
  simp [bL]
theorem toL_bL (l : List UInt8) : (bL l).data.toList = l := by simp [bL]
theorem seq_bL (a b : List UInt8) : seq (bL a) (bL b) = decide (a = b) := by
  have e : ∀ l : List UInt8, (bL l).toList = l := ByteArray.toList_mk
  unfold seq
  rw [e, e]
  by_cases h : a = b
  · subst h; simp
  · simp [h]
theorem seq_refl (s : ByteArray) : seq s s = true := beq_self_eq_true _
theorem bL_extract (l : List UInt8) (a b : Nat) : (bL l).extract a b = bL ((l.take b).drop a) := by
  apply ByteArray.ext
  simp [bL, ByteArray.data_extract, List.drop_take]
theorem bat_bL {l : List UInt8} {i : Nat} (h : i < l.length) : bat (bL l) (i : Int) = ((l.getD i 0).toNat : Int) := by
  unfold bat
  rw [toL_bL, castsub]
theorem rd_bL (xs : List (List UInt8)) (i : Nat) : rd (bs []) (xs.map bL) (i : Int) = bL (xs.getD i []) := by
  rw [rd_nat, List.getD_eq_getElem?_getD, List.getD_eq_getElem?_getD, List.getElem?_map]
  cases xs[i]? with
  | none => rfl
  | some x => rfl
theorem getD_bL (xs : List (List UInt8)) (i : Nat) : (xs.map bL).getD i (bs []) = bL (xs.getD i []) := rd_bL xs i
theorem itoa_nat (u : Nat) : Lib.itoa (u : Int) = Lib.decDigits u := by
  unfold Lib.itoa
  rw [if_neg (by omega)]
  simp
theorem itoa_neg {u : Nat} (h : 0 < u) : Lib.itoa (-(u : Int)) = 45 :: Lib.decDigits u := by
  unfold Lib.itoa
  rw [if_pos (by omega), show (-(u : Int)).natAbs = u by omega]
theorem dec_snoc {q d : Nat} (hq : 0 < q) (hd : d < 10) : Lib.decDigits (10 * q + d) = Lib.decDigits q ++ [UInt8.ofNat (48 + d)] := by
  rw [Lib.decDigits, dif_neg (by omega), show (10 * q + d) / 10 = q by omega, show (10 * q + d) % 10 = d by omega]
theorem dec_one {d : Nat} (hd : d < 10) : Lib.decDigits d = [UInt8.ofNat (48 + d)] := by
  rw [Lib.decDigits, dif_pos hd]
theorem dec_big {u : Nat} (h : 10 ≤ u) : Lib.decDigits u = Lib.decDigits (u / 10) ++ [UInt8.ofNat (48 + u % 10)] := by
  rw [Lib.decDigits, dif_neg (by omega)]
theorem byte_of {b : UInt8} {n : Nat} (h : b.toNat = n) : UInt8.ofNat n = b := by
  rw [← h]; simp
def dig (b : UInt8) : Prop := 48 ≤ b.toNat ∧ b.toNat ≤ 57
instance (b : UInt8) : Decidable (dig b) := inferInstanceAs (Decidable (_ ∧ _))
def valL (a : Nat) (l : List UInt8) : Nat := l.foldl (fun a b => 10 * a + (b.toNat - 48)) a
theorem dec_ne (u : Nat) : Lib.decDigits u ≠ [] := by
  rw [Lib.decDigits]
  split <;> simp
theorem dec_spec (u : Nat) : (∀ b ∈ Lib.decDigits u, dig b) ∧ valL 0 (Lib.decDigits u) = u ∧ (0 < u → (Lib.decDigits u).head? ≠ some 48) := by
  induction u using Nat.strongRecOn with
  | ind u ih =>
    have hd : ∀ d, d < 10 → (UInt8.ofNat (48 + d)).toNat = 48 + d := by
      intro d hd
      rw [UInt8.toNat_ofNat']
      omega
    by_cases h : u < 10
    · rw [dec_one h]
      refine ⟨?_, ?_, ?_⟩
      · intro b hb
        simp only [List.mem_singleton] at hb
        subst hb
        unfold dig
        rw [hd u h]
        omega
      · simp only [valL, List.foldl_cons, List.foldl_nil]
        rw [hd u h]
        omega
      · intro h0 e
        simp only [List.head?_cons, Option.some.injEq] at e
        have := congrArg UInt8.toNat e
        rw [hd u h] at this
        simp at this
        omega
    · obtain ⟨h1, h2, h3⟩ := ih (u / 10) (by omega)
      rw [dec_big (by omega)]
      refine ⟨?_, ?_, ?_⟩
      · intro b hb
        rcases List.mem_append.1 hb with hb | hb
        · exact h1 b hb
        · simp only [List.mem_singleton] at hb
          subst hb
          unfold dig
          rw [hd _ (by omega)]
          omega
      · unfold valL at *
        rw [List.foldl_append, h2, List.foldl_cons, List.foldl_nil, hd _ (by omega)]
        omega
      · intro _
        have := h3 (by omega)
        cases hc : Lib.decDigits (u / 10) with
        | nil => exact absurd hc (dec_ne _)
        | cons b r => rw [hc] at this; simpa using this
theorem valL_ge : ∀ (l : List UInt8) (a : Nat), a ≤ valL a l
  | [], a => Nat.le_refl _
  | b :: l, a => Nat.le_trans (by omega) (valL_ge l (10 * a + (b.toNat - 48)))
theorem dec_val : ∀ (n : Nat) (l : List UInt8), l.length = n → l ≠ [] → (∀ b ∈ l, dig b) → (l.length = 1 ∨ l.head? ≠ some 48) → Lib.decDigits (valL 0 l) = l := by
  intro n
  induction n with
  | zero => intro l hl h0; exact absurd (List.length_eq_zero_iff.1 hl) h0
  | succ n ih =>
    intro l hl h0 hd hh
    obtain ⟨p, b, rfl⟩ : ∃ p b, l = p ++ [b] := ⟨l.dropLast, l.getLast h0, (List.dropLast_concat_getLast h0).symm⟩
    have hb := hd b (by simp)
    unfold dig at hb
    have ev : valL 0 (p ++ [b]) = 10 * valL 0 p + (b.toNat - 48) := by simp [valL]
    rw [ev]
    by_cases hp : p = []
    · subst hp
      rw [show valL 0 [] = 0 from rfl, dec_snoc_zero hb.1 hb.2]
      rfl
    · have hl' : p.length = n := by simpa using hl
      have hp1 : p.length ≠ 0 := fun e => hp (List.length_eq_zero_iff.1 e)
      have hh' : p.head? ≠ some 48 := by
        rcases hh with hh | hh
        · simp at hh; exact absurd hh hp
        · cases p with
          | nil => exact absurd rfl hp
          | cons c r => simpa using hh
      have h1 := ih p hl' hp (fun c hc => hd c (by simp [hc])) (.inr hh')
      have hpos : 0 < valL 0 p := by
        cases p with
        | nil => exact absurd rfl hp
        | cons c r =>
          have hc := hd c (by simp)
          unfold dig at hc
          have hc0 : c.toNat ≠ 48 := by
            intro e
            have e2 : c = 48 := UInt8.toNat_inj.1 e
            subst e2
            simp at hh'
          have := valL_ge r (10 * 0 + (c.toNat - 48))
          show 0 < valL (10 * 0 + (c.toNat - 48)) r
          omega
      rw [dec_snoc hpos (by omega), h1, byte_of (b := b) (by omega)]
where
  dec_snoc_zero {b : UInt8} (h1 : 48 ≤ b.toNat) (h2 : b.toNat ≤ 57) : Lib.decDigits (10 * 0 + (b.toNat - 48)) = [b] := by
    rw [dec_one (by omega), byte_of (b := b) (by omega)]
theorem dec_len {u k : Nat} (h : u < 10 ^ (k + 1)) : (Lib.decDigits u).length ≤ k + 1 := by
  induction k generalizing u with
  | zero => rw [dec_one (by omega)]; simp
  | succ k ih =>
    by_cases h10 : u < 10
    · rw [dec_one h10]; simp
    · have hp : 10 ^ (k + 1 + 1) = 10 ^ (k + 1) * 10 := Nat.pow_succ _ _
      have := ih (u := u / 10) (by omega)
      rw [dec_big (by omega), List.length_append, List.length_singleton]
      omega
theorem itoa_len {n : Int} {k : Nat} (h0 : -(10 ^ (k + 1) : Nat) < n) (h1 : n < (10 ^ (k + 1) : Nat)) : (Lib.itoa n).length ≤ k + 2 := by
  unfold Lib.itoa
  split
  · have := dec_len (u := n.natAbs) (k := k) (by omega)
    simpa using this
  · have := dec_len (u := n.toNat) (k := k) (by omega)
    omega
theorem itoa_len20 {n : Int} (h0 : -9223372036854775808 ≤ n) (h1 : n ≤ 9223372036854775807) : (Lib.itoa n).length ≤ 20 := by
  have := itoa_len (n := n) (k := 18) (by omega) (by omega)
  exact this
theorem itoa_no45 {n : Int} (h0 : 0 ≤ n) : (45 : UInt8) ∉ Lib.itoa n := by
  unfold Lib.itoa
  rw [if_neg (by omega)]
  intro h
  have := (dec_spec _).1 _ h
  unfold dig at this
  simp at this
def splitL (c : UInt8) : List UInt8 → List (List UInt8)
  | [] => [[]]
  | b :: l => if b = c then [] :: splitL c l else match splitL c l with
    | [] => [[b]]
    | w :: ws => (b :: w) :: ws
theorem splitL_ne (c : UInt8) : ∀ l : List UInt8, splitL c l ≠ []
  | [] => by simp [splitL]
  | b :: l => by
    unfold splitL
    split
    · simp
    · split <;> simp
theorem splitK_one (c : UInt8) : ∀ l : List UInt8, Lib.splitK [c] 0 (Lib.count l [c]) l = splitL c l
  | [] => by rw [Lib.count_one]; simp [Lib.splitK, splitL]
  | b :: l => by
    have ih := splitK_one c l
    by_cases h : b = c
    · subst h
      rw [Lib.count_cons_eq, Nat.add_comm, Lib.splitK]
      have hix : Lib.index (b :: l) [b] = ((0 : Nat) : Int) := by rw [Lib.index]; simp [List.isPrefixOf]
      rw [hix]
      simp [splitL, ih]
    · rw [Lib.count_cons_ne b c l h]
      have hp : ([c] : List UInt8).isPrefixOf (b :: l) = false := by simp [List.isPrefixOf, Ne.symm h]
      have hix : Lib.index (b :: l) [c] = if Lib.index l [c] == -1 then -1 else Lib.index l [c] + 1 := by rw [Lib.index, hp]; simp
      rw [splitL, if_neg h, ← ih]
      by_cases hm : Lib.index l [c] = -1
      · rw [Lib.count_miss hm]
        simp [Lib.splitK]
      · have hge := Lib.index_ge l [c]
        obtain ⟨j, hj⟩ : ∃ j : Nat, Lib.index l [c] = j := ⟨(Lib.index l [c]).toNat, by omega⟩
        have hix' : Lib.index (b :: l) [c] = ((j + 1 : Nat) : Int) := by rw [hix, if_neg (fun e => hm (beq_iff_eq.1 e)), hj]; omega
        rw [Lib.count_hit (by simp) hj, Nat.add_comm, Lib.splitK, Lib.splitK, hj, hix']
        have a1 : ¬ ((((j + 1 : Nat) : Int)) == -1) = true := by intro e; have := beq_iff_eq.1 e; omega
        have a2 : ¬ ((((j : Nat) : Int)) == -1) = true := by intro e; have := beq_iff_eq.1 e; omega
        rw [if_neg a1, if_neg a2]
        simp
theorem split_list (c : UInt8) (s : ByteArray) : (Lib.splitB ⟨#[c]⟩ 0 (Lib.countB s ⟨#[c]⟩) s).map (·.data.toList) = splitL c s.data.toList := by
  rw [Lib.splitB_data]
  exact splitK_one c _
theorem bL_split (c : UInt8) (l : List UInt8) : Lib.splitB ⟨#[c]⟩ 0 (Lib.countB (bL l) ⟨#[c]⟩) (bL l) = (splitL c l).map bL := by
  have h := congrArg (List.map bL) (split_list c (bL l))
  rw [toL_bL, List.map_map] at h
  rw [← h]
  have e : (bL ∘ fun s : ByteArray => s.data.toList) = id := by funext s; exact bL_toL s
  rw [e, List.map_id]
theorem splitL_length (c : UInt8) : ∀ l : List UInt8, (splitL c l).length ≤ l.length + 1
  | [] => by simp [splitL]
  | b :: l => by
    have ih := splitL_length c l
    unfold splitL
    split
    · simp; omega
    · split
      · simp
      · rename_i w ws h
        rw [h] at ih
        simp at ih ⊢; omega
theorem splitL_mem (c : UInt8) : ∀ (l : List UInt8) (w : List UInt8), w ∈ splitL c l → w.length ≤ l.length
  | [], w, h => by simp [splitL] at h; subst h; simp
  | b :: l, w, h => by
    have ih := splitL_mem c l
    unfold splitL at h
    split at h
    · rcases List.mem_cons.1 h with rfl | h
      · simp
      · have := ih w h; simp; omega
    · split at h
      · simp at h; subst h; simp
      · rename_i x xs hx
        rw [hx] at ih
        rcases List.mem_cons.1 h with rfl | h
        · have := ih x List.mem_cons_self; simp; omega
        · have := ih w (List.mem_cons_of_mem _ h); simp; omega
theorem splitL_sum (c : UInt8) : ∀ l : List UInt8, ((splitL c l).map (fun w => w.length + 1)).sum = l.length + 1
  | [] => by simp [splitL]
  | b :: l => by
    have ih := splitL_sum c l
    unfold splitL
    split
    · simp [ih]; omega
    · split
      · rename_i h; exact absurd h (splitL_ne c l)
      · rename_i w ws h
        rw [h] at ih
        simp at ih ⊢; omega
theorem splitL_no (c : UInt8) : ∀ l : List UInt8, c ∉ l → splitL c l = [l]
  | [], _ => rfl
  | b :: l, h => by
    have hb : ¬ b = c := fun e => h (by rw [e]; exact List.mem_cons_self)
    have hl : c ∉ l := fun e => h (List.mem_cons_of_mem _ e)
    unfold splitL
    rw [if_neg hb, splitL_no c l hl]
theorem splitL_app (c : UInt8) (r : List UInt8) : ∀ l : List UInt8, c ∉ l → splitL c (l ++ c :: r) = l :: splitL c r
  | [], _ => by simp [splitL]
  | b :: l, h => by
    have hb : ¬ b = c := fun e => h (by rw [e]; exact List.mem_cons_self)
    have hl : c ∉ l := fun e => h (List.mem_cons_of_mem _ e)
    rw [List.cons_append, splitL, if_neg hb, splitL_app c r l hl]
theorem splitL_join (c : UInt8) : ∀ l : List UInt8, Lib.join (splitL c l) [c] = l
  | [] => by simp [splitL, Lib.join, List.intercalate]
  | b :: l => by
    have ih := splitL_join c l
    have hj : ∀ w ws, Lib.joinTail [c] (w :: ws) = c :: (w ++ Lib.joinTail [c] ws) := by intro w ws; simp [Lib.joinTail]
    obtain ⟨w, ws, h⟩ : ∃ w ws, splitL c l = w :: ws := by
      cases h : splitL c l with
      | nil => exact absurd h (splitL_ne c l)
      | cons w ws => exact ⟨w, ws, rfl⟩
    unfold splitL
    rw [h, Lib.join_cons] at ih
    split
    · rename_i hb
      rw [h, Lib.join_cons, hj, ih, hb]; rfl
    · rw [h]
      simp only []
      rw [Lib.join_cons, List.cons_append, ih]
theorem splitL_of_join (c : UInt8) : ∀ xs : List (List UInt8), xs ≠ [] → (∀ x ∈ xs, c ∉ x) → splitL c (Lib.join xs [c]) = xs
  | [], h, _ => absurd rfl h
  | [x], _, h => by
    rw [Lib.join_cons]
    simp only [Lib.joinTail, List.map_nil, List.flatten_nil, List.append_nil]
    exact splitL_no c x (h x List.mem_cons_self)
  | x :: y :: r, _, h => by
    have ih := splitL_of_join c (y :: r) (by simp) (fun z hz => h z (List.mem_cons_of_mem _ hz))
    rw [Lib.join_cons] at ih ⊢
    have hj : Lib.joinTail [c] (y :: r) = c :: (y ++ Lib.joinTail [c] r) := by simp [Lib.joinTail]
    rw [hj, splitL_app c _ x (h x List.mem_cons_self), ih]
def numOf (l : List UInt8) : Int × Bool := match Lib.atoiAll l with | .ok n => if Lib.itoa n = l then (n, true) else (0, false) | _ => (0, false)
theorem digitVal_dig {b : UInt8} (h : dig b) : Lib.digitVal b = some (b.toNat - 48) := by
  unfold Lib.digitVal
  unfold dig at h
  first | rw [if_pos h] | simp [h]
theorem decFrom_dig : ∀ (l : List UInt8) (a : Nat), (∀ b ∈ l, dig b) → Lib.decFrom a l = some (valL a l)
  | [], a, _ => rfl
  | b :: l, a, h => by
    unfold Lib.decFrom
    rw [digitVal_dig (h b List.mem_cons_self)]
    simp only []
    rw [show a * 10 + (b.toNat - 48) = 10 * a + (b.toNat - 48) by omega]
    exact decFrom_dig l _ fun c hc => h c (List.mem_cons_of_mem _ hc)
theorem atoi_itoa {n : Int} (h0 : -(100000000000000000 : Nat) < n) (h1 : n < (100000000000000000 : Nat)) : Lib.atoiAll (Lib.itoa n) = .ok n := by
  have hl := itoa_len (n := n) (k := 16) (by omega) (by omega)
  rw [Lib.atoiAll_short _ hl]
  by_cases hn : n < 0
  · obtain ⟨u, rfl⟩ : ∃ u : Nat, n = -(u : Int) := ⟨n.natAbs, by omega⟩
    rw [itoa_neg (by omega)]
    obtain ⟨d1, d2, _⟩ := dec_spec u
    have hd : Lib.decNat (Lib.decDigits u) = some u := by
      unfold Lib.decNat
      cases hc : Lib.decDigits u with
      | nil => exact absurd hc (dec_ne u)
      | cons b r =>
        rw [← hc]
        have := decFrom_dig (Lib.decDigits u) 0 d1
        rw [d2] at this
        simpa [hc] using this
    unfold Lib.atoi
    simp [hd, Lib.NumEnd.ofOption]
  · obtain ⟨u, rfl⟩ : ∃ u : Nat, n = (u : Int) := ⟨n.toNat, by omega⟩
    rw [itoa_nat]
    obtain ⟨d1, d2, _⟩ := dec_spec u
    have hd : Lib.decNat (Lib.decDigits u) = some u := by
      unfold Lib.decNat
      cases hc : Lib.decDigits u with
      | nil => exact absurd hc (dec_ne u)
      | cons b r =>
        rw [← hc]
        have := decFrom_dig (Lib.decDigits u) 0 d1
        rw [d2] at this
        simpa [hc] using this
    cases hc : Lib.decDigits u with
    | nil => exact absurd hc (dec_ne u)
    | cons b r =>
      rw [hc] at hd d1
      have hb := d1 b List.mem_cons_self
      unfold dig at hb
      unfold Lib.atoi
      simp [hd, Lib.NumEnd.ofOption, show b.toNat ≠ 45 by omega, show b.toNat ≠ 43 by omega, show b ≠ 45 by rintro rfl; simp at hb, show b ≠ 43 by rintro rfl; simp at hb]
theorem numOf_itoa {n : Int} (h0 : -(100000000000000000 : Nat) < n) (h1 : n < (100000000000000000 : Nat)) : numOf (Lib.itoa n) = (n, true) := by
  unfold numOf
  rw [atoi_itoa h0 h1]
  simp
theorem itoa_inj {n m : Int} (h0 : -(100000000000000000 : Nat) < n) (h1 : n < (100000000000000000 : Nat)) (h2 : -(100000000000000000 : Nat) < m) (h3 : m < (100000000000000000 : Nat)) (h : Lib.itoa n = Lib.itoa m) : n = m := by
  have a := numOf_itoa h0 h1
  rw [h, numOf_itoa h2 h3] at a
  exact (congrArg Prod.fst a).symm
theorem numOf_cases (l : List UInt8) : (∃ n, -9223372036854775808 ≤ n ∧ n ≤ 9223372036854775807 ∧ l = Lib.itoa n ∧ numOf l = (n, true)) ∨ (numOf l = (0, false) ∧ ∀ n : Int, -(100000000000000000 : Nat) < n → n < (100000000000000000 : Nat) → l ≠ Lib.itoa n) := by
  by_cases h : (numOf l).2 = true
  · left
    unfold numOf at *
    cases hA : Lib.atoiAll l with
    | ok n =>
      rw [hA] at h
      by_cases hi : Lib.itoa n = l
      · have := Lib.atoiAll_bounds hA
        exact ⟨n, this.1, this.2, hi.symm, by simp only [if_pos hi]⟩
      · simp only [if_neg hi] at h; cases h
    | _ => rw [hA] at h; cases h
  · right
    refine ⟨?_, fun n h0 h1 e => ?_⟩
    · unfold numOf at *
      cases hA : Lib.atoiAll l with
      | ok n =>
        rw [hA] at h
        by_cases hi : Lib.itoa n = l
        · simp only [if_pos hi] at h; exact absurd trivial h
        · simp only [if_neg hi]
      | _ => rfl
    · rw [e, numOf_itoa h0 h1] at h
      exact h rfl
def numsOf : List (List UInt8) → Option (List Int)
  | [] => some []
  | w :: ws => if (numOf w).2 = true then (numsOf ws).map ((numOf w).1 :: ·) else none
def numsSays (c : UInt8) (l : List UInt8) : List Int × Bool := match numsOf (splitL c l) with | some r => (r, true) | none => ([], false)
def digs (acc : Int) : List UInt8 → Int
  | [] => acc
  | b :: r => if b.toNat < 48 ∨ 57 < b.toNat then -1 else digs (10 * acc + ((b.toNat : Int) - 48)) r
def l1r (l : List UInt8) : Int := if l.length < 1 ∨ 6 < l.length ∨ (l.getD 0 0 = 48 ∧ 1 < l.length) then -1 else digs 0 l
theorem digs_dig : ∀ (l : List UInt8) (a : Nat), (∀ b ∈ l, dig b) → digs (a : Int) l = (valL a l : Nat)
  | [], a, _ => rfl
  | b :: l, a, h => by
    have hb := h b List.mem_cons_self
    unfold dig at hb
    unfold digs
    rw [if_neg (by omega), show 10 * (a : Int) + ((b.toNat : Int) - 48) = ((10 * a + (b.toNat - 48) : Nat) : Int) by omega]
    exact digs_dig l _ fun c hc => h c (List.mem_cons_of_mem _ hc)
theorem digs_bad : ∀ (l : List UInt8) (a : Int), 0 ≤ a → (¬ ∀ b ∈ l, dig b) → digs a l = -1
  | [], a, _, h => absurd (fun b hb => by simp at hb) h
  | b :: l, a, h0, h => by
    unfold digs
    by_cases hb : dig b
    · unfold dig at hb
      rw [if_neg (by omega)]
      refine digs_bad l _ (by omega) fun h' => h fun c hc => ?_
      rcases List.mem_cons.1 hc with rfl | hc
      · exact hb
      · exact h' c hc
    · unfold dig at hb
      rw [if_pos (by omega)]
theorem valL_lt : ∀ (l : List UInt8) (a : Nat), (∀ b ∈ l, dig b) → valL a l < (a + 1) * 10 ^ l.length
  | [], a, _ => by simp [valL]
  | b :: l, a, h => by
    have hb := h b List.mem_cons_self
    unfold dig at hb
    have := valL_lt l (10 * a + (b.toNat - 48)) fun c hc => h c (List.mem_cons_of_mem _ hc)
    show valL (10 * a + (b.toNat - 48)) l < _
    refine Nat.lt_of_lt_of_le this ?_
    rw [List.length_cons, Nat.pow_succ, Nat.mul_comm (10 ^ l.length) 10, ← Nat.mul_assoc]
    exact Nat.mul_le_mul_right _ (by omega)
theorem l1r_itoa {n : Int} (h0 : 0 ≤ n) (h1 : n ≤ 999999) : l1r (Lib.itoa n) = n := by
  obtain ⟨u, rfl⟩ : ∃ u : Nat, n = (u : Int) := ⟨n.toNat, by omega⟩
  rw [itoa_nat]
  obtain ⟨d1, d2, d3⟩ := dec_spec u
  have hl := dec_len (u := u) (k := 5) (by omega)
  unfold l1r
  rw [if_neg]
  · have := digs_dig _ 0 d1
    rw [d2] at this
    exact this
  · rintro (h | h | ⟨h, hl1⟩)
    · exact dec_ne u (List.length_eq_zero_iff.1 (by omega))
    · omega
    · have hu : 0 < u := by
        rcases Nat.eq_zero_or_pos u with rfl | h
        · rw [dec_one (by omega)] at hl1; simp at hl1
        · exact h
      have := d3 hu
      cases hc : Lib.decDigits u with
      | nil => exact dec_ne u hc
      | cons b r => rw [hc] at h this; simp at h this; exact this h
theorem l1r_cases (l : List UInt8) : (∃ n, 0 ≤ n ∧ n ≤ 999999 ∧ l = Lib.itoa n ∧ l1r l = n) ∨ (l1r l = -1 ∧ ∀ n : Int, 0 ≤ n → n ≤ 999999 → l ≠ Lib.itoa n) := by
  by_cases h : ∃ n : Int, 0 ≤ n ∧ n ≤ 999999 ∧ l = Lib.itoa n
  · obtain ⟨n, h0, h1, e⟩ := h
    exact .inl ⟨n, h0, h1, e, by rw [e]; exact l1r_itoa h0 h1⟩
  · right
    refine ⟨?_, fun n h0 h1 e => h ⟨n, h0, h1, e⟩⟩
    unfold l1r
    by_cases hc : l.length < 1 ∨ 6 < l.length ∨ (l.getD 0 0 = 48 ∧ 1 < l.length)
    · rw [if_pos hc]
    · rw [if_neg hc]
      refine digs_bad l 0 (by omega) fun hd => h ⟨(valL 0 l : Nat), by omega, ?_, ?_⟩
      · have h1 := valL_lt l 0 hd
        have h2 : 10 ^ l.length ≤ 10 ^ 6 := Nat.pow_le_pow_right (by omega) (by omega)
        omega
      · rw [itoa_nat]
        refine (dec_val _ l rfl (by intro e; subst e; simp at hc) hd ?_).symm
        by_cases h1 : l.length = 1
        · exact .inl h1
        · right
          intro e
          refine hc (.inr (.inr ⟨?_, by omega⟩))
          cases l with
          | nil => simp at e
          | cons b r => simpa using e
def meR (l : List UInt8) : Int × Bool := if 1 < l.length ∧ l.getD 0 0 = 45 then (-(l1r (l.drop 1)), decide (l1r (l.drop 1) > 0)) else (l1r l, decide (l1r l ≥ 0))
theorem meR_cases (l : List UInt8) : (∃ n, -999999 ≤ n ∧ n ≤ 999999 ∧ l = Lib.itoa n ∧ meR l = (n, true)) ∨ ((meR l).2 = false ∧ ∀ n : Int, -999999 ≤ n → n ≤ 999999 → l ≠ Lib.itoa n) := by
  unfold meR
  by_cases h : 1 < l.length ∧ l.getD 0 0 = 45
  · rw [if_pos h]
    obtain ⟨b, r, rfl⟩ : ∃ b r, l = b :: r := by
      cases l with
      | nil => simp at h
      | cons b r => exact ⟨b, r, rfl⟩
    have hb : b = 45 := by simpa using h.2
    subst hb
    rw [List.drop_one, List.tail_cons]
    rcases l1r_cases r with ⟨n, h0, h1, e, hn⟩ | ⟨hn, hne⟩
    · rw [hn]
      by_cases hz : 0 < n
      · obtain ⟨u, rfl⟩ : ∃ u : Nat, n = (u : Int) := ⟨n.toNat, by omega⟩
        refine .inl ⟨-(u : Int), by omega, by omega, ?_, by rw [decide_eq_true (show (u : Int) > 0 from hz)]⟩
        rw [itoa_neg (by omega), e, itoa_nat]
      · refine .inr ⟨decide_eq_false (by omega), fun m m0 m1 em => ?_⟩
        by_cases hm : 0 ≤ m
        · exact itoa_no45 hm (by rw [← em]; simp)
        · obtain ⟨u, rfl⟩ : ∃ u : Nat, m = -(u : Int) := ⟨m.natAbs, by omega⟩
          rw [itoa_neg (by omega)] at em
          have e3 : Lib.itoa n = Lib.itoa (u : Int) := by rw [← e, itoa_nat]; exact (List.cons.inj em).2
          have := itoa_inj (by omega) (by omega) (by omega) (by omega) e3
          omega
    · rw [hn]
      refine .inr ⟨by decide, fun m m0 m1 em => ?_⟩
      by_cases hm : 0 ≤ m
      · exact itoa_no45 hm (by rw [← em]; simp)
      · obtain ⟨u, rfl⟩ : ∃ u : Nat, m = -(u : Int) := ⟨m.natAbs, by omega⟩
        rw [itoa_neg (by omega)] at em
        exact hne (u : Int) (by omega) (by omega) (by rw [itoa_nat]; exact (List.cons.inj em).2)
  · rw [if_neg h]
    rcases l1r_cases l with ⟨n, h0, h1, e, hn⟩ | ⟨hn, hne⟩
    · exact .inl ⟨n, by omega, h1, e, by rw [hn, decide_eq_true (show n ≥ 0 from h0)]⟩
    · rw [hn]
      refine .inr ⟨by decide, fun m m0 m1 em => ?_⟩
      by_cases hm : 0 ≤ m
      · exact hne m hm m1 em
      · obtain ⟨u, rfl⟩ : ∃ u : Nat, m = -(u : Int) := ⟨m.natAbs, by omega⟩
        rw [itoa_neg (by omega)] at em
        refine h ⟨?_, by rw [em]; rfl⟩
        rw [em, List.length_cons]
        have : (Lib.decDigits u).length ≠ 0 := fun e => dec_ne u (List.length_eq_zero_iff.1 e)
        omega
theorem spec_l1In_eq (a b c : Int) : qhxz.f a b c = some (decide (b ≤ a ∧ a ≤ c)) := by
  unfold qhxz.f iGe iLe
  by_cases h : b ≤ a
  · simp [h]
  · simp [h]
theorem impl_within_eq (a b c : Int) : qgwz.f a b c = some (decide (b ≤ a ∧ a ≤ c)) := by
  unfold qgwz.f iGe iLe
  by_cases h : b ≤ a
  · simp [h]
  · simp [h]
theorem all_loop {α : Type} {F : Fu → List α → Int → Int → Option Bool} {g : α → Bool} {z : α}
    (step : ∀ {x0 : List α} {x1 x2 : Int} {r : Bool}, Ev (fun k => if iLt x2 x1 then ix x2 x0 <| (if g (rd z x0 x2) = true then F k x0 x1 (W (x2 + 1)) else some false) else some true) r → Ev (fun k => F k x0 x1 x2) r)
    {l : List α} (hl : l.length ≤ 9223372036854775806) : Ev (fun k => F k l (l.length : Int) 0) (l.all g) := by
  have key : ∀ (d i : Nat), i + d = l.length → Ev (fun k => F k l (l.length : Int) (i : Int)) ((l.drop i).all g) := by
    intro d
    induction d with
    | zero =>
      intro i hi
      rw [List.drop_eq_nil_of_le (by omega)]
      refine step ?_
      simp (disch := omega) only [S]
      exact Ev.now _
    | succ d ih =>
      intro i hi
      have h := ih (i + 1) (by omega)
      rw [drop_cons z (show i < l.length by omega), List.all_cons]
      refine step ?_
      simp (disch := omega) only [S]
      cases hg : g (l.getD i z) with
      | true => simpa using h
      | false => simpa using Ev.now false
  exact key l.length 0 (by omega)
theorem index_loop {α : Type} {F : Fu → List α → Int → Int → Option Int} {g : α → Bool} {z : α}
    (step : ∀ {x0 : List α} {x1 x2 : Int} {r : Int}, Ev (fun k => if iLt x2 x1 then ix x2 x0 <| (if g (rd z x0 x2) = true then F k x0 x1 (W (x2 + 1)) else some x2) else some (-1)) r → Ev (fun k => F k x0 x1 x2) r)
    {l : List α} (hl : l.length ≤ 9223372036854775806) : ∃ r, Ev (fun k => F k l (l.length : Int) 0) r ∧ iGe r 0 = !(l.all g) := by
  have key : ∀ (d i : Nat), i + d = l.length → ∃ r, Ev (fun k => F k l (l.length : Int) (i : Int)) r ∧ iGe r 0 = !((l.drop i).all g) := by
    intro d
    induction d with
    | zero =>
      intro i hi
      rw [List.drop_eq_nil_of_le (by omega)]
      refine ⟨-1, step ?_, rfl⟩
      simp (disch := omega) only [S]
      exact Ev.now _
    | succ d ih =>
      intro i hi
      obtain ⟨r, h, e⟩ := ih (i + 1) (by omega)
      rw [drop_cons z (show i < l.length by omega), List.all_cons]
      cases hg : g (l.getD i z) with
      | true =>
        refine ⟨r, step ?_, by simpa using e⟩
        simp (disch := omega) only [S, hg]
        exact h
      | false =>
        refine ⟨(i : Int), step ?_, by simp (disch := omega) only [S, Bool.false_and]⟩
        simp (disch := omega) only [S, hg]
        exact Ev.now _
  exact key l.length 0 (by omega)
abbrev Wk := Int × Int
def wOk (w : Wk) : Bool := decide (-1000 ≤ w.1 ∧ w.1 ≤ 1000) && decide (-100 ≤ w.2 ∧ w.2 ≤ 100)
def lOk (w : Wk) : Bool := decide (1 ≤ w.1 ∧ w.1 ≤ 1000) && decide (1 ≤ w.2 ∧ w.2 ≤ 100)
def vOk (w : Wk) : Bool := decide (0 ≤ w.1 ∧ w.1 ≤ 200) && decide (0 ≤ w.2 ∧ w.2 ≤ 200)
def lenOk (n : Nat) (l : List Wk) : Bool := decide (1 ≤ (l.length : Int) ∧ (l.length : Int) ≤ n)
def listOk (n : Nat) (ok : Wk → Bool) (l : List Wk) : Bool := lenOk n l && l.all ok
theorem listOk_iff {n : Nat} {ok : Wk → Bool} {l : List Wk} : listOk n ok l = true ↔ (1 ≤ l.length ∧ l.length ≤ n) ∧ ∀ w ∈ l, ok w = true := by
  unfold listOk lenOk
  rw [Bool.and_eq_true, List.all_eq_true, decide_eq_true_eq]
  exact ⟨fun h => ⟨by omega, h.2⟩, fun h => ⟨by omega, h.2⟩⟩
theorem wOk_iff {w : Wk} : wOk w = true ↔ (-1000 ≤ w.1 ∧ w.1 ≤ 1000) ∧ (-100 ≤ w.2 ∧ w.2 ≤ 100) := by unfold wOk; rw [Bool.and_eq_true, decide_eq_true_eq, decide_eq_true_eq]
theorem lOk_iff {w : Wk} : lOk w = true ↔ (1 ≤ w.1 ∧ w.1 ≤ 1000) ∧ (1 ≤ w.2 ∧ w.2 ≤ 100) := by unfold lOk; rw [Bool.and_eq_true, decide_eq_true_eq, decide_eq_true_eq]
theorem vOk_iff {w : Wk} : vOk w = true ↔ (0 ≤ w.1 ∧ w.1 ≤ 200) ∧ (0 ≤ w.2 ∧ w.2 ≤ 200) := by unfold vOk; rw [Bool.and_eq_true, decide_eq_true_eq, decide_eq_true_eq]
theorem spec_meGood_eq (a b : Int) : qgqz.f a b = some (wOk (a, b)) := by
  unfold qgqz.f wOk
  simp only [spec_l1In_eq, Option.bind_some]
  cases decide (-1000 ≤ a ∧ a ≤ 1000) <;> simp
theorem impl_IsWalker_eq (a b : Int) : qexz.f a b = some (wOk (a, b)) := by
  unfold qexz.f wOk
  simp only [impl_within_eq, Option.bind_some]
  cases decide (-1000 ≤ a ∧ a ≤ 1000) <;> simp
theorem impl_AreWalkers_1_eq (a b : Int) : qcfz.f a b = some (!wOk (a, b)) := by
  unfold qcfz.f
  simp only [impl_IsWalker_eq, Option.bind_some]
theorem impl_AreLegs_1_eq (a b : Int) : qebz.f a b = some (!lOk (a, b)) := by
  unfold qebz.f qhjz.f qgjz.f lOk
  simp only [impl_within_eq, Option.bind_some]
  cases decide (1 ≤ a ∧ a ≤ 1000) <;> simp
theorem impl_AreVisits_1_eq (a b : Int) : qcoz.f a b = some (!vOk (a, b)) := by
  unfold qcoz.f vOk
  simp only [impl_within_eq, Option.bind_some]
  cases decide (0 ≤ a ∧ a ≤ 200) <;> simp
theorem ok_of_all {n : Nat} (hn : n ≤ 100) {ok : Wk → Bool} {l : List Wk} {F : Fu → Option Bool} (h : l.length ≤ 9223372036854775806 → Ev F (l.all ok)) :
    Ev (fun k => (some (decide (1 ≤ ln l ∧ ln l ≤ n))).bind fun t0 => if (!t0) = true then some false else F k) (listOk n ok l) := by
  unfold listOk lenOk ln
  by_cases hc : 1 ≤ (l.length : Int) ∧ (l.length : Int) ≤ n
  · simp only [Option.bind_some, decide_eq_true hc, Bool.not_true, Bool.false_eq_true, if_false, Bool.true_and]
    exact h (by omega)
  · simp only [Option.bind_some, decide_eq_false hc, Bool.not_false, if_true, Bool.false_and]
    exact Ev.now _
theorem ok_of_any {n : Nat} (hn : n ≤ 100) {ok : Wk → Bool} {l : List Wk} {F : Fu → Option Bool} (h : l.length ≤ 9223372036854775806 → Ev F (!(l.all ok))) :
    Ev (fun k => (some (decide (1 ≤ ln l ∧ ln l ≤ n))).bind fun t0 => if t0 = true then (F k).bind fun t1 => some (!t1) else some false) (listOk n ok l) := by
  unfold listOk lenOk ln
  by_cases hc : 1 ≤ (l.length : Int) ∧ (l.length : Int) ≤ n
  · simp only [Option.bind_some, decide_eq_true hc, if_true, Bool.true_and]
    exact Ev.bind (h (by omega)) (ev_now (Bool.not_not _))
  · simp only [Option.bind_some, decide_eq_false hc, Bool.false_eq_true, if_false, Bool.false_and]
    exact Ev.now _
theorem spec_meAll_eq (l : List Wk) : Ev (fun k => qhrz.f k l) (listOk 8 wOk l) := by
  refine qhrz.v ?_
  simp only [spec_l1In_eq]
  refine ok_of_all (n := 8) (by decide) fun hl => ?_
  exact all_loop (F := qhrz.l0) (g := wOk) (z := (0, 0)) (fun {x0 x1 x2 r} h => qhrz.v0 (by simp only [spec_meGood_eq, Option.bind_some]; cases hw : wOk (rd (0, 0) x0 x2) <;> simpa [hw] using h)) hl
theorem spec_reGood_eq (l : List Wk) : Ev (fun k => qgmz.f k l) (listOk 5 lOk l) := by
  refine qgmz.v ?_
  simp only [spec_l1In_eq]
  refine ok_of_all (n := 5) (by decide) fun hl => ?_
  refine all_loop (F := qgmz.l0) (g := lOk) (z := (0, 0)) (fun {x0 x1 x2 r} h => qgmz.v0 ?_) hl
  simp only [spec_l1In_eq, Option.bind_some]
  unfold lOk at h
  cases h1 : decide (1 ≤ (rd (0, 0) x0 x2).1 ∧ (rd (0, 0) x0 x2).1 ≤ 1000) <;> cases h2 : decide (1 ≤ (rd (0, 0) x0 x2).2 ∧ (rd (0, 0) x0 x2).2 ≤ 100) <;> simpa [h1, h2] using h
theorem spec_wiGood_eq (l : List Wk) : Ev (fun k => qghz.f k l) (listOk 6 vOk l) := by
  refine qghz.v ?_
  simp only [spec_l1In_eq]
  refine ok_of_all (n := 6) (by decide) fun hl => ?_
  refine all_loop (F := qghz.l0) (g := vOk) (z := (0, 0)) (fun {x0 x1 x2 r} h => qghz.v0 ?_) hl
  simp only [spec_l1In_eq, Option.bind_some]
  unfold vOk at h
  cases h1 : decide (0 ≤ (rd (0, 0) x0 x2).1 ∧ (rd (0, 0) x0 x2).1 ≤ 200) <;> cases h2 : decide (0 ≤ (rd (0, 0) x0 x2).2 ∧ (rd (0, 0) x0 x2).2 ≤ 200) <;> simpa [h1, h2] using h
theorem impl_AreWalkers_eq (l : List Wk) : Ev (fun k => qdtz.f k l) (listOk 8 wOk l) := by
  refine qdtz.v ?_
  simp only [impl_within_eq]
  refine ok_of_any (n := 8) (by decide) fun hl => ?_
  refine qabz.v ?_
  obtain ⟨r, h1, h2⟩ := index_loop (F := qagz.l0) (g := wOk) (z := (0, 0)) (fun {x0 x1 x2 r} h => qagz.v0 (by simp only [impl_AreWalkers_1_eq, Option.bind_some]; cases hw : wOk (rd (0, 0) x0 x2) <;> simpa [hw] using h)) hl
  exact Ev.bind (qagz.v h1) (ev_now h2)
theorem impl_AreLegs_eq (l : List Wk) : Ev (fun k => qfsz.f k l) (listOk 5 lOk l) := by
  refine qfsz.v ?_
  simp only [impl_within_eq]
  refine ok_of_any (n := 5) (by decide) fun hl => ?_
  refine qarz.v ?_
  obtain ⟨r, h1, h2⟩ := index_loop (F := qavz.l0) (g := lOk) (z := (0, 0)) (fun {x0 x1 x2 r} h => qavz.v0 (by simp only [impl_AreLegs_1_eq, Option.bind_some]; cases hw : lOk (rd (0, 0) x0 x2) <;> simpa [hw] using h)) hl
  exact Ev.bind (qavz.v h1) (ev_now h2)
theorem impl_AreVisits_eq (l : List Wk) : Ev (fun k => qeiz.f k l) (listOk 6 vOk l) := by
  refine qeiz.v ?_
  simp only [impl_within_eq]
  refine ok_of_any (n := 6) (by decide) fun hl => ?_
  refine qaez.v ?_
  obtain ⟨r, h1, h2⟩ := index_loop (F := qalz.l0) (g := vOk) (z := (0, 0)) (fun {x0 x1 x2 r} h => qalz.v0 (by simp only [impl_AreVisits_1_eq, Option.bind_some]; cases hw : vOk (rd (0, 0) x0 x2) <;> simpa [hw] using h)) hl
  exact Ev.bind (qalz.v h1) (ev_now h2)
def dOk (l : List Wk) (n : Int) : Bool := listOk 8 wOk l && decide (1 ≤ n ∧ n ≤ 1000)
theorem spec_coGood_eq (l : List Wk) (n : Int) : Ev (fun k => qhbz.f k l n) (dOk l n) := by
  refine qhbz.v (Ev.bind (spec_meAll_eq l) ?_)
  unfold dOk
  simp only [spec_l1In_eq, Option.bind_some]
  cases listOk 8 wOk l <;> simpa using Ev.now _
theorem impl_IsDesk_eq (l : List Wk) (n : Int) : Ev (fun k => qgtz.f k l n) (dOk l n) := by
  refine qgtz.v (Ev.bind (impl_AreWalkers_eq l) ?_)
  unfold dOk qhaz.f
  simp only [impl_within_eq, Option.bind_some]
  cases listOk 8 wOk l <;> simpa using Ev.now _
def cOk (a l r d : Int) : Bool := decide ((1 ≤ a ∧ a ≤ 1000) ∧ (0 ≤ l ∧ l ≤ 20) ∧ (0 ≤ r ∧ r ≤ 20) ∧ 0 < l + r ∧ l < d ∧ r < d ∧ d ≤ 20)
theorem spec_doGood_eq (a l r d : Int) : qhgz.f a l r d = some (cOk a l r d) := by
  unfold qhgz.f qgcz.f cOk
  simp only [spec_l1In_eq, Option.bind_some]
  by_cases h1 : 1 ≤ a ∧ a ≤ 1000
  · by_cases h2 : 0 ≤ l ∧ l ≤ 20
    · by_cases h3 : 0 ≤ r ∧ r ≤ 20
      · simp only [decide_eq_true h1, decide_eq_true h2, decide_eq_true h3, if_true]
        by_cases h4 : 0 < l + r
        · by_cases h5 : r < l
          · simp (disch := omega) only [S]
            exact congrArg some (dec_e (by omega))
          · simp (disch := omega) only [S]
            exact congrArg some (dec_e (by omega))
        · simp (disch := omega) only [S]
          exact congrArg some (dec_f (by omega)).symm
      · simp only [decide_eq_true h1, decide_eq_true h2, decide_eq_false h3, if_true, Bool.false_eq_true, if_false]
        exact congrArg some (dec_f (by omega)).symm
    · simp only [decide_eq_true h1, decide_eq_false h2, if_true, Bool.false_eq_true, if_false]
      exact congrArg some (dec_f (by omega)).symm
  · simp only [decide_eq_false h1, Bool.false_eq_true, if_false]
    exact congrArg some (dec_f (by omega)).symm
theorem impl_IsChase_eq (a l r d : Int) : qflz.f a l r d = some (cOk a l r d) := by
  unfold qflz.f cOk mx
  simp only [impl_within_eq, Option.bind_some]
  by_cases h1 : 1 ≤ a ∧ a ≤ 1000
  · by_cases h2 : 0 ≤ l ∧ l ≤ 20
    · by_cases h3 : 0 ≤ r ∧ r ≤ 20
      · simp only [decide_eq_true h1, decide_eq_true h2, decide_eq_true h3, if_true]
        by_cases h4 : 0 < l + r
        · have e : (if r > l then r else l) = max l r := by split <;> omega
          rw [e]
          by_cases h5 : max l r < d
          · simp (disch := omega) only [S]
            exact congrArg some (dec_e (by omega))
          · simp (disch := omega) only [S]
            exact congrArg some (dec_f (by omega)).symm
        · simp (disch := omega) only [S]
          exact congrArg some (dec_f (by omega)).symm
      · simp only [decide_eq_true h1, decide_eq_true h2, decide_eq_false h3, if_true, Bool.false_eq_true, if_false]
        exact congrArg some (dec_f (by omega)).symm
    · simp only [decide_eq_true h1, decide_eq_false h2, if_true, Bool.false_eq_true, if_false]
      exact congrArg some (dec_f (by omega)).symm
  · simp only [decide_eq_false h1, Bool.false_eq_true, if_false]
    exact congrArg some (dec_f (by omega)).symm
theorem strings_Split_eq {l : List UInt8} (h : l.length ≤ 2000000) (c : UInt8) : qfbz.f (bL l) (bL [c]) = some ((splitL c l).map bL) := by
  unfold qfbz.f handSplit splitsB
  rw [if_pos (by rw [bL_size]; omega), if_pos (by rw [bL_size]; simp), show bL [c] = ⟨#[c]⟩ from rfl, bL_split]
theorem impl_readNumber_eq {l : List UInt8} (h : l.length ≤ 2000000) : qdgz.f (bL l) = some (numOf l) := by
  unfold qdgz.f handNumber numB numOf
  rw [if_pos (by rw [bL_size]; omega), toL_bL]
  cases Lib.atoiAll l <;> rfl
def splitP (p : List UInt8) (c : UInt8) (r : List UInt8) : List (List UInt8) := match splitL c r with | [] => [p] | w :: ws => (p ++ w) :: ws
theorem splitP_nil (c : UInt8) (r : List UInt8) : splitP [] c r = splitL c r := by
  unfold splitP
  cases h : splitL c r with
  | nil => exact absurd h (splitL_ne c r)
  | cons w ws => rfl
theorem splitP_hit (p : List UInt8) (c : UInt8) (r : List UInt8) : splitP p c (c :: r) = p :: splitL c r := by
  unfold splitP
  simp [splitL]
theorem splitP_miss (p : List UInt8) {b c : UInt8} (h : ¬ b = c) (r : List UInt8) : splitP p c (b :: r) = splitP (p ++ [b]) c r := by
  unfold splitP
  rw [splitL, if_neg h]
  cases h : splitL c r with
  | nil => exact absurd h (splitL_ne c r)
  | cons w ws => simp
theorem l1Split_loop {l : List UInt8} (hl : l.length ≤ 2000000) (c : UInt8) (d : Nat) : ∀ (i f : Nat) (out : List ByteArray), out.length ≤ i → f ≤ i → i + d = l.length →
    Ev (fun k => qftz.l0 k (bL l) (c.toNat : Int) (f : Int) (i : Int) out) (out ++ (splitP ((l.take i).drop f) c (l.drop i)).map bL) := by
  induction d with
  | zero =>
    intro i f out ho hf hi
    rw [List.drop_eq_nil_of_le (show l.length ≤ i by omega), List.take_of_length_le (show l.length ≤ i by omega)]
    refine qftz.v0 ?_
    simp (disch := omega) only [S, bL_size, bL_extract, List.take_length]
    have e : splitP (l.drop f) c [] = [l.drop f] := by simp [splitP, splitL]
    rw [e]
    exact Ev.now _
  | succ d ih =>
    intro i f out ho hf hi
    have hil : i < l.length := by omega
    rw [drop_cons 0 hil]
    have ht := take_snoc' (0 : UInt8) hil
    refine qftz.v0 ?_
    have e1 := bat_bL hil
    by_cases hb : l.getD i 0 = c
    · rw [hb, splitP_hit]
      have e2 : bat (bL l) (i : Int) = (c.toNat : Int) := by rw [e1, hb]
      simp (disch := omega) only [S, bL_size, bL_extract, e2]
      have h := ih (i + 1) (i + 1) (out ++ [bL ((l.take i).drop f)]) (by simp; omega) (Nat.le_refl _) (by omega)
      rw [List.drop_eq_nil_of_le (show (l.take (i + 1)).length ≤ i + 1 by simp; omega), splitP_nil] at h
      simpa using h
    · have hne : ¬ ((l.getD i 0).toNat : Int) = (c.toNat : Int) := fun e => hb (UInt8.toNat_inj.1 (by omega))
      rw [splitP_miss _ hb]
      simp (disch := omega) only [S, bL_size, bL_extract, e1]
      have h := ih (i + 1) f out (by omega) (by omega) (by omega)
      rw [ht, List.drop_append_of_le_length (by simp; omega)] at h
      exact h
theorem spec_l1Split_eq {l : List UInt8} (hl : l.length ≤ 2000000) (c : UInt8) : Ev (fun k => qftz.f k (bL l) (c.toNat : Int)) ((splitL c l).map bL) := by
  have h := l1Split_loop hl c l.length 0 0 [] (by simp) (Nat.le_refl _) (by omega)
  refine qftz.v ?_
  simpa [splitP_nil] using h
theorem l1Read_loop {l : List UInt8} (hl : l.length ≤ 6) (d : Nat) : ∀ (i : Nat) (a : Nat), a < 10 ^ i → i + d = l.length →
    Ev (fun k => qgiz.l0 k (bL l) (a : Int) (i : Int)) (digs (a : Int) (l.drop i)) := by
  induction d with
  | zero =>
    intro i a ha hi
    rw [List.drop_eq_nil_of_le (by omega)]
    refine qgiz.v0 ?_
    simp (disch := omega) only [S, bL_size, digs]
    exact Ev.now _
  | succ d ih =>
    intro i a ha hi
    have hil : i < l.length := by omega
    have hp : 10 ^ i ≤ 10 ^ 6 := Nat.pow_le_pow_right (by omega) (by omega)
    have hb : (l.getD i 0).toNat < 256 := (l.getD i 0).toNat_lt
    rw [drop_cons 0 hil]
    unfold digs
    refine qgiz.v0 ?_
    have e1 := bat_bL hil
    generalize hg : (l.getD i 0).toNat = b at *
    by_cases h1 : b < 48
    · rw [if_pos (show b < 48 ∨ 57 < b from Or.inl h1)]
      simp (disch := omega) only [S, bL_size, e1]
      exact Ev.now _
    · by_cases h2 : 57 < b
      · rw [if_pos (show b < 48 ∨ 57 < b from Or.inr h2)]
        simp (disch := omega) only [S, bL_size, e1]
        exact Ev.now _
      · rw [if_neg (show ¬ (b < 48 ∨ 57 < b) by omega)]
        have h := ih (i + 1) (10 * a + (b - 48)) (by rw [Nat.pow_succ]; omega) (by omega)
        have e3 : 10 * (a : Int) + ((b : Int) - 48) = ((10 * a + (b - 48) : Nat) : Int) := by omega
        have e4 : IntKind.wrap .u8 ((b : Int) - 48) = (b : Int) - 48 := by simp [IntKind.wrap, IntKind.bits, IntKind.signed]; omega
        rw [← e3] at h
        rw [e3] at h ⊢
        rw [← e3]
        simp (disch := omega) only [S, bL_size, e1, e4]
        rw [← e3] at h
        exact h
theorem spec_l1Read_eq {l : List UInt8} (hl : l.length ≤ 2000000) : Ev (fun k => qgiz.f k (bL l)) (l1r l) := by
  unfold l1r
  refine qgiz.v ?_
  simp only [spec_l1In_eq]
  by_cases h : 1 ≤ l.length ∧ l.length ≤ 6
  · have hb := bat_bL (show 0 < l.length by omega)
    have hb' : bat (bL l) 0 = ((l.getD 0 0).toNat : Int) := hb
    have hg := l1Read_loop h.2 l.length 0 0 (by simp) (by omega)
    rw [List.drop_zero] at hg
    have hg' : Ev (fun k => qgiz.l0 k (bL l) 0 0) (digs 0 l) := hg
    have hc : decide ((1 : Int) ≤ sln (bL l) ∧ sln (bL l) ≤ 6) = true := decide_eq_true (by unfold sln; rw [bL_size]; omega)
    by_cases h0 : l.getD 0 0 = 48
    · have e : ((l.getD 0 0).toNat : Int) = 48 := by rw [h0]; rfl
      by_cases h1 : 1 < l.length
      · rw [if_pos (show l.length < 1 ∨ 6 < l.length ∨ (l.getD 0 0 = 48 ∧ 1 < l.length) from Or.inr (Or.inr ⟨h0, h1⟩))]
        rw [hc]
        simp (disch := omega) only [S, bL_size, hb']
        exact Ev.now _
      · rw [if_neg (show ¬ (l.length < 1 ∨ 6 < l.length ∨ (l.getD 0 0 = 48 ∧ 1 < l.length)) by omega)]
        rw [hc]
        simp (disch := omega) only [S, bL_size, hb']
        exact hg'
    · have e : ¬ ((l.getD 0 0).toNat : Int) = 48 := fun e => h0 (UInt8.toNat_inj.1 (by have : (48 : UInt8).toNat = 48 := rfl; omega))
      rw [if_neg (show ¬ (l.length < 1 ∨ 6 < l.length ∨ (l.getD 0 0 = 48 ∧ 1 < l.length)) by rintro (h1 | h1 | ⟨h1, _⟩) <;> first | omega | exact h0 h1)]
      rw [hc]
      simp (disch := omega) only [S, bL_size, hb']
      exact hg'
  · have hc : decide ((1 : Int) ≤ sln (bL l) ∧ sln (bL l) ≤ 6) = false := decide_eq_false (by unfold sln; rw [bL_size]; omega)
    rw [if_pos (show l.length < 1 ∨ 6 < l.length ∨ (l.getD 0 0 = 48 ∧ 1 < l.length) by omega), hc]
    simp (disch := omega) only [S]
    exact Ev.now _
theorem l1r_bd (l : List UInt8) : -1 ≤ l1r l ∧ l1r l ≤ 999999 := by
  rcases l1r_cases l with ⟨n, h0, h1, _, e⟩ | ⟨e, _⟩ <;> omega
theorem spec_meRead_eq {l : List UInt8} (hl : l.length ≤ 2000000) : Ev (fun k => qhez.f k (bL l)) (meR l) := by
  refine qhez.v ?_
  unfold meR
  by_cases h1 : 1 < l.length
  · have hb : bat (bL l) 0 = ((l.getD 0 0).toNat : Int) := bat_bL (show 0 < l.length by omega)
    by_cases h2 : l.getD 0 0 = 45
    · have e : ((l.getD 0 0).toNat : Int) = 45 := by rw [h2]; rfl
      rw [if_pos ⟨h1, h2⟩]
      simp (disch := omega) only [S, bL_size, hb, bL_extract, List.take_length]
      have := l1r_bd (l.drop 1)
      refine Ev.bind (spec_l1Read_eq (by simp; omega)) ?_
      simp (disch := omega) only [S, Int.zero_sub]
      exact Ev.now _
    · have e : ¬ ((l.getD 0 0).toNat : Int) = 45 := fun e => h2 (UInt8.toNat_inj.1 (by have : (45 : UInt8).toNat = 45 := rfl; omega))
      rw [if_neg (fun h => h2 h.2)]
      simp (disch := omega) only [S, bL_size, hb]
      exact Ev.bind (spec_l1Read_eq hl) (Ev.now _)
  · rw [if_neg (fun h => h1 h.1)]
    simp (disch := omega) only [S, bL_size]
    exact Ev.bind (spec_l1Read_eq hl) (Ev.now _)
theorem readNumbers_loop {ws : List (List UInt8)} (hl : ws.length ≤ 2000001) (hw : ∀ w ∈ ws, w.length ≤ 2000000) (d : Nat) : ∀ (i : Nat) (acc : List Int), acc.length = i → i + d = ws.length →
    Ev (fun k => qcyz.l0 k (ws.map bL) (ws.length : Int) (i : Int) acc) (match numsOf (ws.drop i) with | some r => (acc ++ r, true) | none => ([], false)) := by
  induction d with
  | zero =>
    intro i acc ha hi
    rw [List.drop_eq_nil_of_le (by omega)]
    refine qcyz.v0 ?_
    simp (disch := omega) only [S, numsOf, List.append_nil]
    exact Ev.now _
  | succ d ih =>
    intro i acc ha hi
    have hil : i < ws.length := by omega
    have h := ih (i + 1) (acc ++ [(numOf (ws.getD i [])).1]) (by simp [ha]) (by omega)
    have hml : (ws.map bL).length = ws.length := List.length_map _
    rw [drop_cons [] hil]
    refine qcyz.v0 ?_
    simp (disch := omega) only [S, List.length_map, getD_bL, impl_readNumber_eq (hw _ (getD_mem hil))]
    unfold numsOf
    cases hn : (numOf (ws.getD i [])).2 with
    | true =>
      simp (disch := omega) only [S]
      cases hr : numsOf (ws.drop (i + 1)) with
      | none => rw [hr] at h; simpa using h
      | some r => rw [hr] at h; simpa using h
    | false =>
      simp only [S]
      exact Ev.now _
theorem impl_readNumbers_eq {l : List UInt8} (h : l.length ≤ 2000000) (c : UInt8) : Ev (fun k => qcyz.f k (bL l) (bL [c])) (numsSays c l) := by
  refine qcyz.v ?_
  simp only [S, strings_Split_eq h, List.length_map]
  have := splitL_length c l
  have h0 := readNumbers_loop (ws := splitL c l) (by omega) (fun w hw => by have := splitL_mem c l w hw; omega) (splitL c l).length 0 [] rfl (by omega)
  simp only [List.drop_zero, List.nil_append] at h0
  exact h0
def readAll (f : List UInt8 → Option Wk) : List (List UInt8) → Option (List Wk)
  | [] => some []
  | w :: ws => match f w with
    | some p => (readAll f ws).map (p :: ·)
    | none => none
def listSays (n : Nat) (ok : Wk → Bool) : Option (List Wk) → List Wk × Bool
  | some L => if listOk n ok L = true then (L, true) else ([], false)
  | none => ([], false)
def Spells (c : UInt8) (w : List UInt8) (p : Wk) : Prop := splitL c w = [Lib.itoa p.1, Lib.itoa p.2]
def SpellsAll (c : UInt8) : List (List UInt8) → List Wk → Prop
  | [], [] => True
  | w :: ws, p :: ps => Spells c w p ∧ SpellsAll c ws ps
  | _, _ => False
theorem readAll_spells {f : List UInt8 → Option Wk} {c : UInt8} {ok : Wk → Bool} (hA : ∀ w p, f w = some p → ok p = true → Spells c w p) : ∀ {ws : List (List UInt8)} {L : List Wk}, readAll f ws = some L → (∀ p ∈ L, ok p = true) → SpellsAll c ws L
  | [], L, h, _ => by cases h; trivial
  | w :: ws, L, h, hok => by
    unfold readAll at h
    cases hf : f w with
    | none => rw [hf] at h; cases h
    | some p =>
      rw [hf] at h
      cases hr : readAll f ws with
      | none => rw [hr] at h; cases h
      | some L' =>
        rw [hr] at h
        cases h
        exact ⟨hA w p hf (hok p List.mem_cons_self), readAll_spells hA hr fun q hq => hok q (List.mem_cons_of_mem _ hq)⟩
theorem spells_readAll {f : List UInt8 → Option Wk} {c : UInt8} {ok : Wk → Bool} (hB : ∀ w p, Spells c w p → ok p = true → f w = some p) : ∀ {ws : List (List UInt8)} {L : List Wk}, SpellsAll c ws L → (∀ p ∈ L, ok p = true) → readAll f ws = some L
  | [], [], _, _ => rfl
  | [], _ :: _, h, _ => h.elim
  | _ :: _, [], h, _ => h.elim
  | w :: ws, p :: L, h, hok => by
    unfold readAll
    rw [hB w p h.1 (hok p List.mem_cons_self), spells_readAll hB h.2 fun q hq => hok q (List.mem_cons_of_mem _ hq)]
    rfl
theorem listSays_eq {f g : List UInt8 → Option Wk} {c : UInt8} {n : Nat} {ok : Wk → Bool} (hA : ∀ w p, f w = some p → ok p = true → Spells c w p) (hB : ∀ w p, Spells c w p → ok p = true → f w = some p)
    (hC : ∀ w p, g w = some p → ok p = true → Spells c w p) (hD : ∀ w p, Spells c w p → ok p = true → g w = some p) (ws : List (List UInt8)) : listSays n ok (readAll f ws) = listSays n ok (readAll g ws) := by
  have half : ∀ {f g : List UInt8 → Option Wk}, (∀ w p, f w = some p → ok p = true → Spells c w p) → (∀ w p, Spells c w p → ok p = true → g w = some p) → ∀ L, readAll f ws = some L → listOk n ok L = true → readAll g ws = some L := by
    intro f g hA hD L h hL
    have h2 := (listOk_iff.1 hL).2
    exact spells_readAll hD (readAll_spells hA h h2) h2
  cases hf : readAll f ws with
  | some L =>
    by_cases hL : listOk n ok L = true
    · rw [half hA hD L hf hL]
    · cases hg : readAll g ws with
      | none => simp [listSays, hL]
      | some L' =>
        by_cases hL' : listOk n ok L' = true
        · have := half hC hB L' hg hL'
          rw [hf] at this
          cases this
          rfl
        · simp [listSays, hL, hL']
  | none =>
    cases hg : readAll g ws with
    | none => rfl
    | some L' =>
      by_cases hL' : listOk n ok L' = true
      · have := half hC hB L' hg hL'
        rw [hf] at this
        cases this
      · simp [listSays, hL']
theorem spells_short {c c1 : UInt8} {m n : Nat} {ok : Wk → Bool} (hs : ∀ w p, Spells c w p → ok p = true → w.length ≤ m) {l : List UInt8} {L : List Wk} (h : SpellsAll c (splitL c1 l) L) (hL : listOk n ok L = true) : l.length + 1 ≤ n * (m + 1) := by
  have key : ∀ (ws : List (List UInt8)) (L : List Wk), SpellsAll c ws L → (∀ p ∈ L, ok p = true) → (ws.map (fun w => w.length + 1)).sum ≤ L.length * (m + 1) := by
    intro ws
    induction ws with
    | nil => intro L _ _; simp
    | cons w ws ih =>
      intro L h hok
      cases L with
      | nil => exact h.elim
      | cons p L =>
        have h1 := hs w p h.1 (hok p List.mem_cons_self)
        have h2 := ih L h.2 fun q hq => hok q (List.mem_cons_of_mem _ hq)
        rw [List.map_cons, List.sum_cons, List.length_cons, Nat.succ_mul]
        omega
  obtain ⟨h1, h2⟩ := listOk_iff.1 hL
  have := key _ L h h2
  rw [splitL_sum] at this
  exact Nat.le_trans this (Nat.mul_le_mul_right _ h1.2)
def pairN (c : UInt8) (w : List UInt8) : Option Wk := if (numsSays c w).2 = true ∧ (numsSays c w).1.length = 2 then some ((numsSays c w).1.getD 0 0, (numsSays c w).1.getD 1 0) else none
def pairM (c : UInt8) (w : List UInt8) : Option Wk := if (splitL c w).length = 2 then (if (meR ((splitL c w).getD 0 [])).2 = true ∧ (meR ((splitL c w).getD 1 [])).2 = true then some ((meR ((splitL c w).getD 0 [])).1, (meR ((splitL c w).getD 1 [])).1) else none) else none
def pairL (c : UInt8) (w : List UInt8) : Option Wk := if (splitL c w).length = 2 then some (l1r ((splitL c w).getD 0 []), l1r ((splitL c w).getD 1 [])) else none
theorem len2 {α : Type} {l : List α} (h : l.length = 2) : ∃ a b, l = [a, b] := by
  match l, h with
  | [a, b], _ => exact ⟨a, b, rfl⟩
theorem nums_is {ws : List (List UInt8)} {r : List Int} (h : numsOf ws = some r) : ws = r.map Lib.itoa := by
  induction ws generalizing r with
  | nil => simp [numsOf] at h; subst h; rfl
  | cons w ws ih =>
    unfold numsOf at h
    by_cases hn : (numOf w).2 = true
    · rw [if_pos hn] at h
      cases hr : numsOf ws with
      | none => rw [hr] at h; simp at h
      | some r' =>
        rw [hr] at h
        simp at h
        subst h
        rcases numOf_cases w with ⟨n, _, _, e, hn'⟩ | ⟨hn', _⟩
        · rw [List.map_cons, hn', ← ih hr, ← e]
        · rw [hn'] at hn; cases hn
    · rw [if_neg hn] at h; simp at h
theorem nums_of {r : List Int} (h : ∀ n ∈ r, -(100000000000000000 : Nat) < n ∧ n < (100000000000000000 : Nat)) : numsOf (r.map Lib.itoa) = some r := by
  induction r with
  | nil => rfl
  | cons n r ih =>
    have h1 := h n List.mem_cons_self
    rw [List.map_cons, numsOf, numOf_itoa h1.1 h1.2, ih (fun m hm => h m (List.mem_cons_of_mem _ hm))]
    simp
theorem numsSays_is {c : UInt8} {l : List UInt8} (h : (numsSays c l).2 = true) : splitL c l = (numsSays c l).1.map Lib.itoa := by
  unfold numsSays at *
  cases hr : numsOf (splitL c l) with
  | none => rw [hr] at h; simp at h
  | some r => exact nums_is hr
theorem numsSays_of {c : UInt8} {l : List UInt8} {r : List Int} (h : splitL c l = r.map Lib.itoa) (hr : ∀ n ∈ r, -(100000000000000000 : Nat) < n ∧ n < (100000000000000000 : Nat)) : numsSays c l = (r, true) := by
  unfold numsSays
  rw [h, nums_of hr]
def okIn (lo hi : Int) (ok : Wk → Bool) : Prop := ∀ p, ok p = true → (lo ≤ p.1 ∧ p.1 ≤ hi) ∧ (lo ≤ p.2 ∧ p.2 ≤ hi)
theorem pairN_A (c : UInt8) (ok : Wk → Bool) (w : List UInt8) (p : Wk) (h : pairN c w = some p) (_ : ok p = true) : Spells c w p := by
  unfold pairN at h
  split at h
  · rename_i hc
    obtain ⟨a, b, e⟩ := len2 hc.2
    have h2 := numsSays_is hc.1
    rw [e] at h h2
    cases h
    exact h2
  · cases h
theorem pairN_B {c : UInt8} {ok : Wk → Bool} (hok : okIn (-999999) 999999 ok) (w : List UInt8) (p : Wk) (h : Spells c w p) (hp : ok p = true) : pairN c w = some p := by
  obtain ⟨h1, h2⟩ := hok p hp
  have e := numsSays_of (r := [p.1, p.2]) h (by intro n hn; simp only [List.mem_cons, List.not_mem_nil, or_false] at hn; omega)
  unfold pairN
  rw [e]
  rfl
theorem pairM_A (c : UInt8) (ok : Wk → Bool) (w : List UInt8) (p : Wk) (h : pairM c w = some p) (_ : ok p = true) : Spells c w p := by
  unfold pairM at h
  split at h
  · rename_i hc
    obtain ⟨a, b, e⟩ := len2 hc
    rw [e] at h
    simp only [List.getD_cons_zero, List.getD_cons_succ] at h
    split at h
    · rename_i hm
      rcases meR_cases a with ⟨n, _, _, ea, ra⟩ | ⟨ra, _⟩
      · rcases meR_cases b with ⟨m, _, _, eb, rb⟩ | ⟨rb, _⟩
        · rw [ra, rb] at h
          cases h
          unfold Spells
          rw [e, ea, eb]
        · rw [rb] at hm; cases hm.2
      · rw [ra] at hm; cases hm.1
    · cases h
  · cases h
theorem meR_itoa {n : Int} (h0 : -999999 ≤ n) (h1 : n ≤ 999999) : meR (Lib.itoa n) = (n, true) := by
  rcases meR_cases (Lib.itoa n) with ⟨m, h2, h3, e, r⟩ | ⟨_, hne⟩
  · rw [r, itoa_inj (by omega) (by omega) (by omega) (by omega) e]
  · exact absurd rfl (hne n h0 h1)
theorem pairM_B {c : UInt8} {ok : Wk → Bool} (hok : okIn (-999999) 999999 ok) (w : List UInt8) (p : Wk) (h : Spells c w p) (hp : ok p = true) : pairM c w = some p := by
  obtain ⟨h1, h2⟩ := hok p hp
  unfold Spells at h
  unfold pairM
  rw [h]
  simp only [List.getD_cons_zero, List.getD_cons_succ, List.length_cons, List.length_nil, meR_itoa h1.1 h1.2, meR_itoa h2.1 h2.2]
  simp
theorem pairL_A {c : UInt8} {ok : Wk → Bool} (hok : okIn 0 999999 ok) (w : List UInt8) (p : Wk) (h : pairL c w = some p) (hp : ok p = true) : Spells c w p := by
  obtain ⟨h1, h2⟩ := hok p hp
  unfold pairL at h
  split at h
  · rename_i hc
    obtain ⟨a, b, e⟩ := len2 hc
    rw [e] at h
    simp only [List.getD_cons_zero, List.getD_cons_succ] at h
    cases h
    rcases l1r_cases a with ⟨n, _, _, ea, ra⟩ | ⟨ra, _⟩
    · rcases l1r_cases b with ⟨m, _, _, eb, rb⟩ | ⟨rb, _⟩
      · unfold Spells
        rw [e]
        show [a, b] = [Lib.itoa (l1r a), Lib.itoa (l1r b)]
        rw [ra, rb, ← ea, ← eb]
      · rw [rb] at h2; simp at h2
    · rw [ra] at h1; simp at h1
  · cases h
theorem pairL_B {c : UInt8} {ok : Wk → Bool} (hok : okIn 0 999999 ok) (w : List UInt8) (p : Wk) (h : Spells c w p) (hp : ok p = true) : pairL c w = some p := by
  obtain ⟨h1, h2⟩ := hok p hp
  unfold Spells at h
  unfold pairL
  rw [h]
  simp only [List.getD_cons_zero, List.getD_cons_succ, List.length_cons, List.length_nil, l1r_itoa h1.1 h1.2, l1r_itoa h2.1 h2.2]
  simp
theorem w_in : okIn (-999999) 999999 wOk := fun p h => by have := wOk_iff.1 h; omega
theorem l_in : okIn 0 999999 lOk := fun p h => by have := lOk_iff.1 h; omega
theorem v_in : okIn 0 999999 vOk := fun p h => by have := vOk_iff.1 h; omega
theorem in_wide {ok : Wk → Bool} (h : okIn 0 999999 ok) : okIn (-999999) 999999 ok := fun p hp => by have := h p hp; omega
theorem spells_len {c : UInt8} {w : List UInt8} {p : Wk} (h : Spells c w p) : w.length = (Lib.itoa p.1).length + 1 + (Lib.itoa p.2).length := by
  have := splitL_sum c w
  unfold Spells at h
  rw [h] at this
  simp at this
  omega
def walkersSays (l : List UInt8) : List Wk × Bool := listSays 8 wOk (readAll (pairN 58) (splitL 44 l))
def legsSays (l : List UInt8) : List Wk × Bool := listSays 5 lOk (readAll (pairN 47) (splitL 43 l))
def visitsSays (l : List UInt8) : List Wk × Bool := listSays 6 vOk (readAll (pairN 43) (splitL 44 l))
theorem says_long {c c1 : UInt8} {n m : Nat} {ok : Wk → Bool} (hs : ∀ w p, Spells c w p → ok p = true → w.length ≤ m) {l : List UInt8} (hl : n * (m + 1) < l.length + 1) : listSays n ok (readAll (pairN c) (splitL c1 l)) = ([], false) := by
  cases hr : readAll (pairN c) (splitL c1 l) with
  | none => rfl
  | some L =>
    unfold listSays
    by_cases hL : listOk n ok L = true
    · have := spells_short hs (readAll_spells (pairN_A c ok) hr (listOk_iff.1 hL).2) hL
      omega
    · simp [hL]
theorem impl_list_loop {F : Fu → List BA → Int → Int → List Wk → Option (List Wk × Bool)} {G : Fu → List Wk → Option Bool} {c : UInt8} {n : Nat} {ok : Wk → Bool} (hG : ∀ L, Ev (fun k => G k L) (listOk n ok L))
    (step : ∀ {x0 : List BA} {x1 x2 : Int} {x3 : List Wk} {r}, Ev (fun k => if (iLt x2 x1) then ix x2 x0 <| (qcyz.f k (rd (bs []) x0 x2) (bL [c])).bind fun t0 =>
      if (!t0.2) then some ([], false) else if ((ln t0.1) != 2) then some ([], false) else gd (0 < (ln t0.1)) <| gd (1 < (ln t0.1)) <| gd (((lnN x3) + 1) ≤ 8796093022208) <| F k x0 x1 (W (x2 + 1)) (x3 ++ [((rd 0 t0.1 0), (rd 0 t0.1 1))]) else (G k x3).bind fun t0 =>
      if (!t0) then some ([], false) else some (x3, true)) r → Ev (fun k => F k x0 x1 x2 x3) r)
    {ws : List (List UInt8)} (hl : ws.length ≤ 2000001) (hw : ∀ w ∈ ws, w.length ≤ 2000000) (d : Nat) : ∀ (i : Nat) (acc : List Wk), acc.length = i → i + d = ws.length →
    Ev (fun k => F k (ws.map bL) (ws.length : Int) (i : Int) acc) (listSays n ok ((readAll (pairN c) (ws.drop i)).map (acc ++ ·))) := by
  have hml : (ws.map bL).length = ws.length := List.length_map _
  induction d with
  | zero =>
    intro i acc ha hi
    rw [List.drop_eq_nil_of_le (by omega)]
    refine step ?_
    simp (disch := omega) only [S]
    refine Ev.bind (hG acc) ?_
    simp only [readAll, Option.map_some, listSays, List.append_nil]
    cases listOk n ok acc <;> simpa using Ev.now _
  | succ d ih =>
    intro i acc ha hi
    have hil : i < ws.length := by omega
    rw [drop_cons [] hil]
    refine step ?_
    simp (disch := omega) only [S, getD_bL]
    refine Ev.bind (impl_readNumbers_eq (hw _ (getD_mem hil)) c) ?_
    unfold readAll
    cases h1 : (numsSays c (ws.getD i [])).2 with
    | false =>
      have : pairN c (ws.getD i []) = none := by unfold pairN; rw [if_neg (by rw [h1]; simp)]
      rw [this]
      simp only [S]
      exact Ev.now _
    | true =>
      by_cases h2 : (numsSays c (ws.getD i [])).1.length = 2
      · obtain ⟨a, b, e⟩ := len2 h2
        have hp : pairN c (ws.getD i []) = some (a, b) := by unfold pairN; rw [if_pos ⟨h1, h2⟩, e]; rfl
        have h := ih (i + 1) (acc ++ [(a, b)]) (by simp [ha]) (by omega)
        rw [hp, e]
        simp (disch := omega) only [S, List.length_cons, List.length_nil]
        have e2 : ((readAll (pairN c) (ws.drop (i + 1))).map ((a, b) :: ·)).map (acc ++ ·) = (readAll (pairN c) (ws.drop (i + 1))).map (acc ++ [(a, b)] ++ ·) := by
          cases readAll (pairN c) (ws.drop (i + 1)) <;> simp
        simp only [e2]
        exact h
      · have : pairN c (ws.getD i []) = none := by unfold pairN; rw [if_neg (fun h => h2 h.2)]
        rw [this]
        simp (disch := omega) only [S]
        exact Ev.now _
theorem split_bd {c : UInt8} {l : List UInt8} (h : l.length ≤ 2000000) : (splitL c l).length ≤ 2000001 ∧ ∀ w ∈ splitL c l, w.length ≤ 2000000 :=
  ⟨by have := splitL_length c l; omega, fun w hw => by have := splitL_mem c l w hw; omega⟩
theorem map_nil (o : Option (List Wk)) : o.map (([] : List Wk) ++ ·) = o := by cases o <;> simp
theorem impl_ParseWalkers_eq {l : List UInt8} (h : l.length ≤ 2000000) : Ev (fun k => qcdz.f k (bL l)) (walkersSays l) := by
  refine qcdz.v ?_
  obtain ⟨h1, h2⟩ := split_bd (c := 44) h
  have := impl_list_loop (c := 58) (F := qcdz.l0) impl_AreWalkers_eq qcdz.v0 h1 h2 (splitL 44 l).length 0 [] rfl (by omega)
  rw [map_nil] at this
  simp only [show bs [44] = bL [44] from rfl, strings_Split_eq h, S, List.length_map]
  exact this
theorem impl_ParseLegs_eq {l : List UInt8} (h : l.length ≤ 2000000) : Ev (fun k => qdxz.f k (bL l)) (legsSays l) := by
  refine qdxz.v ?_
  obtain ⟨h1, h2⟩ := split_bd (c := 43) h
  have := impl_list_loop (c := 47) (F := qdxz.l0) impl_AreLegs_eq qdxz.v0 h1 h2 (splitL 43 l).length 0 [] rfl (by omega)
  rw [map_nil] at this
  simp only [show bs [43] = bL [43] from rfl, strings_Split_eq h, S, List.length_map]
  exact this
theorem impl_ParseVisits_eq {l : List UInt8} (h : l.length ≤ 2000000) : Ev (fun k => qctz.f k (bL l)) (visitsSays l) := by
  refine qctz.v ?_
  obtain ⟨h1, h2⟩ := split_bd (c := 44) h
  have := impl_list_loop (c := 43) (F := qctz.l0) impl_AreVisits_eq qctz.v0 h1 h2 (splitL 44 l).length 0 [] rfl (by omega)
  rw [map_nil] at this
  simp only [show bs [44] = bL [44] from rfl, strings_Split_eq h, S, List.length_map]
  exact this
theorem spec_pair_loop {F : Fu → List BA → Int → Int → List Wk → Option (List Wk × Bool)} {G : Fu → List Wk → Option Bool} {c : UInt8} {n : Nat} {ok : Wk → Bool} (hG : ∀ L, Ev (fun k => G k L) (listOk n ok L))
    (step : ∀ {x0 : List BA} {x1 x2 : Int} {x3 : List Wk} {r}, Ev (fun k => if (iLt x2 x1) then ix x2 x0 <| (qftz.f k (rd (bs []) x0 x2) (c.toNat : Int)).bind fun t0 =>
      if ((ln t0) != 2) then some ([], false) else gd (0 < (ln t0)) <| (qgiz.f k (rd (bs []) t0 0)).bind fun t1 =>
      gd (1 < (ln t0)) <| (qgiz.f k (rd (bs []) t0 1)).bind fun t2 =>
      gd (((lnN x3) + 1) ≤ 8796093022208) <| F k x0 x1 (W (x2 + 1)) (x3 ++ [(t1, t2)]) else (G k x3).bind fun t0 =>
      if (!t0) then some ([], false) else some (x3, true)) r → Ev (fun k => F k x0 x1 x2 x3) r)
    {ws : List (List UInt8)} (hl : ws.length ≤ 2000001) (hw : ∀ w ∈ ws, w.length ≤ 2000000) (d : Nat) : ∀ (i : Nat) (acc : List Wk), acc.length = i → i + d = ws.length →
    Ev (fun k => F k (ws.map bL) (ws.length : Int) (i : Int) acc) (listSays n ok ((readAll (pairL c) (ws.drop i)).map (acc ++ ·))) := by
  have hml : (ws.map bL).length = ws.length := List.length_map _
  induction d with
  | zero =>
    intro i acc ha hi
    rw [List.drop_eq_nil_of_le (by omega)]
    refine step ?_
    simp (disch := omega) only [S]
    refine Ev.bind (hG acc) ?_
    simp only [readAll, Option.map_some, listSays, List.append_nil]
    cases listOk n ok acc <;> simpa using Ev.now _
  | succ d ih =>
    intro i acc ha hi
    have hil : i < ws.length := by omega
    have hwi := hw _ (getD_mem (z := []) hil)
    rw [drop_cons [] hil]
    refine step ?_
    simp (disch := omega) only [S, getD_bL]
    refine Ev.bind (spec_l1Split_eq hwi c) ?_
    unfold readAll
    by_cases h2 : (splitL c (ws.getD i [])).length = 2
    · have hm := splitL_mem c (ws.getD i [])
      obtain ⟨a, b, e⟩ := len2 h2
      have ha1 := hm a (by rw [e]; simp)
      have hb1 := hm b (by rw [e]; simp)
      have hp : pairL c (ws.getD i []) = some (l1r a, l1r b) := by unfold pairL; rw [if_pos h2, e]; rfl
      have h := ih (i + 1) (acc ++ [(l1r a, l1r b)]) (by simp [ha]) (by omega)
      rw [hp, e]
      have e2 : ((readAll (pairL c) (ws.drop (i + 1))).map ((l1r a, l1r b) :: ·)).map (acc ++ ·) = (readAll (pairL c) (ws.drop (i + 1))).map (acc ++ [(l1r a, l1r b)] ++ ·) := by
        cases readAll (pairL c) (ws.drop (i + 1)) <;> simp
      simp only [e2]
      simp (disch := omega) only [S, List.map_cons, List.map_nil, List.length_cons, List.length_nil]
      refine Ev.bind (spec_l1Read_eq (l := a) (by omega)) ?_
      refine Ev.bind (spec_l1Read_eq (l := b) (by omega)) ?_
      exact h
    · have : pairL c (ws.getD i []) = none := by unfold pairL; rw [if_neg h2]
      have hml2 : ((splitL c (ws.getD i [])).map bL).length = (splitL c (ws.getD i [])).length := List.length_map _
      rw [this]
      simp (disch := omega) only [S]
      exact Ev.now _
theorem meParse_loop {ws : List (List UInt8)} (hl : ws.length ≤ 2000001) (hw : ∀ w ∈ ws, w.length ≤ 2000000) (d : Nat) : ∀ (i : Nat) (acc : List Wk), acc.length = i → i + d = ws.length →
    Ev (fun k => qfkz.l0 k (ws.map bL) (ws.length : Int) (i : Int) acc) (listSays 8 wOk ((readAll (pairM 58) (ws.drop i)).map (acc ++ ·))) := by
  have hml : (ws.map bL).length = ws.length := List.length_map _
  induction d with
  | zero =>
    intro i acc ha hi
    rw [List.drop_eq_nil_of_le (by omega)]
    refine qfkz.v0 ?_
    simp (disch := omega) only [S]
    refine Ev.bind (spec_meAll_eq acc) ?_
    simp only [readAll, Option.map_some, listSays, List.append_nil]
    cases listOk 8 wOk acc <;> simpa using Ev.now _
  | succ d ih =>
    intro i acc ha hi
    have hil : i < ws.length := by omega
    have hwi := hw _ (getD_mem (z := []) hil)
    rw [drop_cons [] hil]
    refine qfkz.v0 ?_
    simp (disch := omega) only [S, getD_bL]
    refine Ev.bind (spec_l1Split_eq hwi 58) ?_
    unfold readAll
    by_cases h2 : (splitL 58 (ws.getD i [])).length = 2
    · have hm := splitL_mem 58 (ws.getD i [])
      obtain ⟨a, b, e⟩ := len2 h2
      have ha1 := hm a (by rw [e]; simp)
      have hb1 := hm b (by rw [e]; simp)
      rw [e]
      simp (disch := omega) only [S, List.map_cons, List.map_nil, List.length_cons, List.length_nil]
      refine Ev.bind (spec_meRead_eq (l := a) (by omega)) ?_
      refine Ev.bind (spec_meRead_eq (l := b) (by omega)) ?_
      cases hra : (meR a).2 with
      | false =>
        have hp : pairM 58 (ws.getD i []) = none := by unfold pairM; rw [if_pos h2, e, if_neg (by simp [hra])]
        rw [hp]
        simp only [S]
        exact Ev.now _
      | true =>
        cases hrb : (meR b).2 with
        | false =>
          have hp : pairM 58 (ws.getD i []) = none := by unfold pairM; rw [if_pos h2, e, if_neg (by simp [hrb])]
          rw [hp]
          simp only [S]
          exact Ev.now _
        | true =>
          have hp : pairM 58 (ws.getD i []) = some ((meR a).1, (meR b).1) := by unfold pairM; rw [if_pos h2, e, if_pos (by simp [hra, hrb])]; rfl
          have h := ih (i + 1) (acc ++ [((meR a).1, (meR b).1)]) (by simp [ha]) (by omega)
          have e2 : ((readAll (pairM 58) (ws.drop (i + 1))).map (((meR a).1, (meR b).1) :: ·)).map (acc ++ ·) = (readAll (pairM 58) (ws.drop (i + 1))).map (acc ++ [((meR a).1, (meR b).1)] ++ ·) := by
            cases readAll (pairM 58) (ws.drop (i + 1)) <;> simp
          rw [hp]
          simp only [e2]
          simp (disch := omega) only [S]
          exact h
    · have : pairM 58 (ws.getD i []) = none := by unfold pairM; rw [if_neg h2]
      have hml2 : ((splitL 58 (ws.getD i [])).map bL).length = (splitL 58 (ws.getD i [])).length := List.length_map _
      rw [this]
      simp (disch := omega) only [S]
      exact Ev.now _
theorem itoa_short {n : Int} (h0 : -1000 ≤ n) (h1 : n ≤ 1000) : (Lib.itoa n).length ≤ 5 := itoa_len (k := 3) (by omega) (by omega)
theorem itoa_short3 {n : Int} (h0 : -100 ≤ n) (h1 : n ≤ 100) : (Lib.itoa n).length ≤ 4 := itoa_len (k := 2) (by omega) (by omega)
theorem spec_meParse_eq {l : List UInt8} (h : l.length ≤ 2000000) : Ev (fun k => qfkz.f k (bL l)) (walkersSays l) := by
  have hs : ∀ w p, Spells 58 w p → wOk p = true → w.length ≤ 10 := by
    intro w p hw hp
    obtain ⟨h1, h2⟩ := wOk_iff.1 hp
    have := spells_len hw
    have := itoa_short h1.1 h1.2
    have := itoa_short3 h2.1 h2.2
    omega
  refine qfkz.v ?_
  by_cases hl : 100 < l.length
  · unfold walkersSays
    rw [says_long hs (by omega)]
    simp (disch := omega) only [S, bL_size]
    exact Ev.now _
  · obtain ⟨h1, h2⟩ := split_bd (c := 44) h
    have := meParse_loop h1 h2 (splitL 44 l).length 0 [] rfl (by omega)
    rw [map_nil, List.drop_zero, ← listSays_eq (pairN_A 58 wOk) (pairN_B w_in) (pairM_A 58 wOk) (pairM_B w_in)] at this
    simp (disch := omega) only [S, bL_size]
    refine Ev.bind (spec_l1Split_eq h 44) ?_
    simp only [S, List.length_map]
    exact this
theorem spec_reParse_eq {l : List UInt8} (h : l.length ≤ 2000000) : Ev (fun k => qfoz.f k (bL l)) (legsSays l) := by
  have hs : ∀ w p, Spells 47 w p → lOk p = true → w.length ≤ 11 := by
    intro w p hw hp
    obtain ⟨h1, h2⟩ := lOk_iff.1 hp
    have := spells_len hw
    have := itoa_short (n := p.1) (by omega) (by omega)
    have := itoa_short (n := p.2) (by omega) (by omega)
    omega
  refine qfoz.v ?_
  by_cases hl : 80 < l.length
  · unfold legsSays
    rw [says_long hs (by omega)]
    simp (disch := omega) only [S, bL_size]
    exact Ev.now _
  · obtain ⟨h1, h2⟩ := split_bd (c := 43) h
    have := spec_pair_loop (c := 47) (F := qfoz.l0) spec_reGood_eq qfoz.v0 h1 h2 (splitL 43 l).length 0 [] rfl (by omega)
    rw [map_nil, List.drop_zero, ← listSays_eq (pairN_A 47 lOk) (pairN_B (in_wide l_in)) (pairL_A l_in) (pairL_B l_in)] at this
    simp (disch := omega) only [S, bL_size]
    refine Ev.bind (spec_l1Split_eq h 43) ?_
    simp only [S, List.length_map]
    exact this
theorem spec_wiParse_eq {l : List UInt8} (h : l.length ≤ 2000000) : Ev (fun k => qfxz.f k (bL l)) (visitsSays l) := by
  have hs : ∀ w p, Spells 43 w p → vOk p = true → w.length ≤ 9 := by
    intro w p hw hp
    obtain ⟨h1, h2⟩ := vOk_iff.1 hp
    have := spells_len hw
    have := itoa_len (n := p.1) (k := 2) (by omega) (by omega)
    have := itoa_len (n := p.2) (k := 2) (by omega) (by omega)
    omega
  refine qfxz.v ?_
  by_cases hl : 60 < l.length
  · unfold visitsSays
    rw [says_long hs (by omega)]
    simp (disch := omega) only [S, bL_size]
    exact Ev.now _
  · obtain ⟨h1, h2⟩ := split_bd (c := 44) h
    have := spec_pair_loop (c := 43) (F := qfxz.l0) spec_wiGood_eq qfxz.v0 h1 h2 (splitL 44 l).length 0 [] rfl (by omega)
    rw [map_nil, List.drop_zero, ← listSays_eq (pairN_A 43 vOk) (pairN_B (in_wide v_in)) (pairL_A v_in) (pairL_B v_in)] at this
    simp (disch := omega) only [S, bL_size]
    refine Ev.bind (spec_l1Split_eq h 44) ?_
    simp only [S, List.length_map]
    exact this
abbrev Ch := Int × (Int × (Int × Int))
def chaseSays (l : List UInt8) : Ch × Bool :=
  if (numsSays 45 l).2 = true ∧ (numsSays 45 l).1.length = 4 ∧ cOk ((numsSays 45 l).1.getD 0 0) ((numsSays 45 l).1.getD 1 0) ((numsSays 45 l).1.getD 2 0) ((numsSays 45 l).1.getD 3 0) = true
  then (((numsSays 45 l).1.getD 0 0, ((numsSays 45 l).1.getD 1 0, ((numsSays 45 l).1.getD 2 0, (numsSays 45 l).1.getD 3 0))), true) else ((0, (0, (0, 0))), false)
theorem len4 {α : Type} {l : List α} (h : l.length = 4) : ∃ a b c d, l = [a, b, c, d] := by
  match l, h with
  | [a, b, c, d], _ => exact ⟨a, b, c, d, rfl⟩
theorem rd0 {α : Type} (z a : α) (l : List α) : rd z (a :: l) 0 = a := rfl
theorem rd1 {α : Type} (z a b : α) (l : List α) : rd z (a :: b :: l) 1 = b := rfl
theorem rd2 {α : Type} (z a b c : α) (l : List α) : rd z (a :: b :: c :: l) 2 = c := rfl
theorem rd3 {α : Type} (z a b c d : α) (l : List α) : rd z (a :: b :: c :: d :: l) 3 = d := rfl
theorem impl_ParseChase_eq {l : List UInt8} (h : l.length ≤ 2000000) : Ev (fun k => qdrz.f k (bL l)) (chaseSays l) := by
  refine qdrz.v (Ev.bind (impl_readNumbers_eq h 45) ?_)
  cases h1 : (numsSays 45 l).2 with
  | false =>
    have e : chaseSays l = ((0, (0, (0, 0))), false) := by unfold chaseSays; rw [if_neg (by rw [h1]; simp)]
    rw [e]
    simp only [S]
    exact Ev.now _
  | true =>
    by_cases h2 : (numsSays 45 l).1.length = 4
    · unfold chaseSays
      obtain ⟨a, b, c, d, e⟩ := len4 h2
      rw [h1, e]
      simp (disch := omega) only [S, List.length_cons, List.length_nil, rd0, rd1, rd2, rd3, impl_IsChase_eq, List.getD_cons_zero, List.getD_cons_succ]
      cases cOk a b c d with
      | false => simp; exact Ev.now _
      | true => simp; exact Ev.now _
    · have e : chaseSays l = ((0, (0, (0, 0))), false) := by unfold chaseSays; rw [if_neg (fun h => h2 h.2.1)]
      rw [e]
      simp (disch := omega) only [S]
      exact Ev.now _
theorem cOk_iff {a l r d : Int} : cOk a l r d = true ↔ (1 ≤ a ∧ a ≤ 1000) ∧ (0 ≤ l ∧ l ≤ 20) ∧ (0 ≤ r ∧ r ≤ 20) ∧ 0 < l + r ∧ l < d ∧ r < d ∧ d ≤ 20 := by unfold cOk; rw [decide_eq_true_eq]
theorem spec_doParse_eq {l : List UInt8} (h : l.length ≤ 2000000) : Ev (fun k => qfzz.f k (bL l)) (chaseSays l) := by
  refine qfzz.v (Ev.bind (spec_l1Split_eq h 45) ?_)
  have hsum := splitL_sum 45 l
  -- where the program reads a chase the text is one
  have key : ∀ a b c d : Int, cOk a b c d = true → splitL 45 l = [Lib.itoa a, Lib.itoa b, Lib.itoa c, Lib.itoa d] → l.length ≤ 16 ∧ chaseSays l = ((a, (b, (c, d))), true) := by
    intro a b c d hc hs
    have hc' := cOk_iff.1 hc
    have la := itoa_len (n := a) (k := 3) (by omega) (by omega)
    have la2 : (Lib.itoa a).length ≤ 4 := by
      obtain ⟨u, rfl⟩ : ∃ u : Nat, a = (u : Int) := ⟨a.toNat, by omega⟩
      rw [itoa_nat]
      exact dec_len (k := 3) (by omega)
    have lx : ∀ n : Int, 0 ≤ n → n ≤ 20 → (Lib.itoa n).length ≤ 2 := by
      intro n h0 h1
      obtain ⟨u, rfl⟩ : ∃ u : Nat, n = (u : Int) := ⟨n.toNat, by omega⟩
      rw [itoa_nat]
      exact dec_len (k := 1) (by omega)
    have lb := lx b (by omega) (by omega)
    have lc := lx c (by omega) (by omega)
    have ld := lx d (by omega) (by omega)
    refine ⟨?_, ?_⟩
    · rw [hs] at hsum
      simp at hsum
      omega
    · have e := numsSays_of (r := [a, b, c, d]) hs (by intro n hn; simp only [List.mem_cons, List.not_mem_nil, or_false] at hn; omega)
      unfold chaseSays
      rw [e]
      simp [hc]
  have no : (∀ a b c d : Int, cOk a b c d = true → ¬ splitL 45 l = [Lib.itoa a, Lib.itoa b, Lib.itoa c, Lib.itoa d]) → chaseSays l = ((0, (0, (0, 0))), false) := by
    intro hn
    unfold chaseSays
    rw [if_neg]
    rintro ⟨h1, h2, h3⟩
    have h4 := numsSays_is h1
    obtain ⟨a, b, c, d, e⟩ := len4 h2
    rw [e] at h3 h4
    exact hn a b c d h3 h4
  have hml : ((splitL 45 l).map bL).length = (splitL 45 l).length := List.length_map _
  by_cases hl : 16 < l.length
  · rw [no fun a b c d hc hs => by have := (key a b c d hc hs).1; omega]
    simp (disch := omega) only [S, bL_size]
    exact Ev.now _
  · by_cases h4 : (splitL 45 l).length = 4
    · have hm := splitL_mem 45 l
      obtain ⟨a, b, c, d, e⟩ := len4 h4
      rw [e] at hm ⊢
      have ha := hm a (by simp)
      have hb := hm b (by simp)
      have hc := hm c (by simp)
      have hd := hm d (by simp)
      simp (disch := omega) only [S, bL_size, List.map_cons, List.map_nil, List.length_cons, List.length_nil, rd0, rd1, rd2, rd3]
      refine Ev.bind (spec_l1Read_eq (l := a) (by omega)) (Ev.bind (spec_l1Read_eq (l := b) (by omega)) (Ev.bind (spec_l1Read_eq (l := c) (by omega)) (Ev.bind (spec_l1Read_eq (l := d) (by omega)) ?_)))
      simp only [spec_doGood_eq, S]
      cases hk : cOk (l1r a) (l1r b) (l1r c) (l1r d) with
      | true =>
        have hk' := cOk_iff.1 hk
        have ea : ∀ x, 0 ≤ l1r x → x = Lib.itoa (l1r x) := by
          intro x hx
          rcases l1r_cases x with ⟨n, _, _, e1, e2⟩ | ⟨e1, _⟩
          · rw [e2]; exact e1
          · omega
        rw [(key _ _ _ _ hk (by rw [e, ← ea a (by omega), ← ea b (by omega), ← ea c (by omega), ← ea d (by omega)])).2]
        simp only [S]
        exact Ev.now _
      | false =>
        rw [no]
        · simp only [S]
          exact Ev.now _
        · intro a' b' c' d' hc' hs
          rw [e] at hs
          simp only [List.cons.injEq, and_true] at hs
          obtain ⟨rfl, rfl, rfl, rfl⟩ := hs
          have hc2 := cOk_iff.1 hc'
          rw [l1r_itoa (by omega) (by omega), l1r_itoa (by omega) (by omega), l1r_itoa (by omega) (by omega), l1r_itoa (by omega) (by omega), hc'] at hk
          cases hk
    · rw [no fun a b c d hc hs => h4 (by rw [hs]; rfl)]
      simp (disch := omega) only [S, bL_size]
      exact Ev.now _
theorem hML : 140737488355328 ≤ maxLen := by decide
theorem join_snoc (s x : List UInt8) : ∀ xs : List (List UInt8), Lib.join (xs ++ [x]) s = Lib.join xs s ++ (if xs.length = 0 then [] else s) ++ x
  | [] => by simp [Lib.join, List.intercalate]
  | w :: ws => by
    rw [List.cons_append, Lib.join_cons, Lib.join_cons]
    simp [Lib.joinTail]
theorem join_len {s : List UInt8} {m : Nat} : ∀ {L : List (List UInt8)}, (∀ w ∈ L, w.length ≤ m) → (Lib.join L s).length ≤ L.length * (m + s.length) := by
  intro L
  induction L with
  | nil => intro _; simp [Lib.join, List.intercalate]
  | cons w ws ih =>
    intro h
    have key : ∀ ws : List (List UInt8), (∀ w ∈ ws, w.length ≤ m) → (Lib.joinTail s ws).length ≤ ws.length * (m + s.length) := by
      intro ws
      induction ws with
      | nil => intro _; simp [Lib.joinTail]
      | cons v vs ih =>
        intro h
        have h1 := h v List.mem_cons_self
        have h2 := ih fun w hw => h w (List.mem_cons_of_mem _ hw)
        have e : Lib.joinTail s (v :: vs) = s ++ v ++ Lib.joinTail s vs := by simp [Lib.joinTail]
        rw [e, List.length_append, List.length_append, List.length_cons, Nat.succ_mul]
        omega
    have h1 := h w List.mem_cons_self
    have h2 := key ws fun w hw => h w (List.mem_cons_of_mem _ hw)
    rw [Lib.join_cons, List.length_append, List.length_cons, Nat.succ_mul]
    omega
theorem join_run {F : Fu → BA → Int → Option BA} {L : List (List UInt8)} {c : UInt8} {m : Nat} (hm : ∀ w ∈ L, w.length ≤ m) (hb : L.length * (m + 1) ≤ 1000000000)
    (hend : ∀ x, Ev (fun k => F k (bL x) (L.length : Int)) (bL x))
    (hstep : ∀ (i : Nat) (x : List UInt8) r, i < L.length → x.length ≤ 1000000000 → Ev (fun k => F k (bL (x ++ (if i = 0 then [] else [c]) ++ L.getD i [])) ((i + 1 : Nat) : Int)) r → Ev (fun k => F k (bL x) (i : Int)) r) :
    Ev (fun k => F k (bs []) 0) (bL (Lib.join L [c])) := by
  have key : ∀ (d i : Nat), i + d = L.length → Ev (fun k => F k (bL (Lib.join (L.take i) [c])) (i : Int)) (bL (Lib.join L [c])) := by
    intro d
    induction d with
    | zero =>
      intro i hi
      rw [List.take_of_length_le (by omega), show i = L.length by omega]
      exact hend _
    | succ d ih =>
      intro i hi
      have h := ih (i + 1) (by omega)
      have hl : (Lib.join (L.take i) [c]).length ≤ (L.take i).length * (m + 1) := join_len (s := [c]) fun w hw => hm w (List.mem_of_mem_take hw)
      have h2 : (L.take i).length * (m + 1) ≤ L.length * (m + 1) := Nat.mul_le_mul_right _ (by rw [List.length_take]; omega)
      rw [take_snoc' [] (show i < L.length by omega), join_snoc] at h
      have e : (L.take i).length = i := by rw [List.length_take]; omega
      rw [e] at h
      exact hstep i _ _ (by omega) (by omega) h
  exact key L.length 0 (by omega)
theorem strings_Join_eq {L : List (List UInt8)} {c : UInt8} {m : Nat} (hm : ∀ w ∈ L, w.length ≤ m) (hb : L.length * (m + 1) ≤ 1000000000) (hl : L.length ≤ 1000000000) : qgaz.f (L.map bL) (bL [c]) = some (bL (Lib.join L [c])) := by
  have e : (L.map bL).map (fun b => b.data.toList) = L := by
    rw [List.map_map]
    exact (List.map_congr_left (fun x _ => by simp [bL])).trans (List.map_id L)
  have e2 : (bL [c]).data.toList = [c] := by simp [bL]
  have e3 : joinB (L.map bL) (bL [c]) = bL (Lib.join L [c]) := by
    unfold joinB
    rw [e, e2]
    rfl
  have := join_len (s := [c]) hm
  unfold qgaz.f handJoin
  rw [e3, if_pos (by rw [List.length_map]; unfold room; omega), if_pos (by rw [bL_size]; unfold room; simp at this; omega)]
theorem fill_run {β : Type} {F : Fu → Int → List BA → Option β} {L : List (List UInt8)} {r : β} (hend : Ev (fun k => F k (L.length : Int) (L.map bL)) r)
    (hstep : ∀ (i : Nat) (xs : List BA), i < L.length → xs.length = L.length → Ev (fun k => F k ((i + 1 : Nat) : Int) (xs.set i (bL (L.getD i [])))) r → Ev (fun k => F k (i : Int) xs) r) :
    Ev (fun k => F k 0 (List.replicate L.length (bs []))) r := by
  have key : ∀ (d i : Nat), i + d = L.length → Ev (fun k => F k (i : Int) ((L.take i).map bL ++ List.replicate (L.length - i) (bs []))) r := by
    intro d
    induction d with
    | zero =>
      intro i hi
      rw [List.take_of_length_le (by omega), show L.length - i = 0 by omega, List.replicate_zero, List.append_nil, show i = L.length by omega]
      exact hend
    | succ d ih =>
      intro i hi
      have h := ih (i + 1) (by omega)
      rw [← fill_step bL ([] : List UInt8) (bs []) (show i < L.length by omega)] at h
      exact hstep i _ (by omega) (fill_len bL (bs []) (by omega)) h
  exact key L.length 0 (by omega)
def i64 (n : Int) : Prop := -9223372036854775807 ≤ n ∧ n ≤ 9223372036854775807
theorem strconv_Itoa_eq {n : Int} (h : i64 n) : qfiz.f n = some (bL (Lib.itoa n)) := by
  unfold i64 at h
  unfold qfiz.f handItoa
  rw [if_pos (by omega), if_pos (by omega)]
  rfl
theorem itoa20 {n : Int} (h : i64 n) : (Lib.itoa n).length ≤ 20 := itoa_len20 (by unfold i64 at h; omega) (by unfold i64 at h; omega)
theorem spec_l1Num_nat (u : Nat) : u ≤ 9223372036854775807 → Ev (fun k => qhoz.f k (u : Int)) (bL (Lib.decDigits u)) := by
  induction u using Nat.strongRecOn with
  | ind u ih =>
    intro hu
    have nums : ∀ x : Nat, x ≤ 200 → bytesOf [IntKind.wrap .u8 (W (48 + (x : Int)))] = bL [UInt8.ofNat (48 + x)] := by
      intro x hx
      rw [w64 (by omega) (by omega), show IntKind.wrap .u8 (48 + (x : Int)) = 48 + (x : Int) by simp [IntKind.wrap, IntKind.bits, IntKind.signed]; omega]
      show (⟨#[UInt8.ofNat (48 + (x : Int)).toNat]⟩ : ByteArray) = bL [UInt8.ofNat (48 + x)]
      rw [show (48 + (x : Int)).toNat = 48 + x by omega]
      rfl
    refine qhoz.v ?_
    by_cases h : u < 10
    · rw [dec_one h, nums u (by omega)]
      simp (disch := omega) only [S]
      exact Ev.now _
    · rw [dec_big (by omega)]
      have h1 := ih (u / 10) (by omega) (by omega)
      have e1 : W (Int.tdiv (u : Int) 10) = ((u / 10 : Nat) : Int) := by
        rw [Int.tdiv_eq_ediv_of_nonneg (by omega), w64 (by omega) (by omega)]; omega
      have e2 : Int.tmod (u : Int) 10 = ((u % 10 : Nat) : Int) := by
        rw [Int.tmod_eq_emod_of_nonneg (by omega)]; omega
      have hl := dec_len (u := u / 10) (k := 18) (by omega)
      have hM := hML
      simp only [e1, e2, nums (u % 10) (by omega)]
      simp (disch := omega) only [S]
      refine Ev.bind h1 ?_
      simp (disch := omega) only [S, bL_size, List.length_singleton, bL_app]
      exact Ev.now _
theorem spec_l1Num_eq {n : Int} (h0 : 0 ≤ n) (h : i64 n) : Ev (fun k => qhoz.f k n) (bL (Lib.itoa n)) := by
  obtain ⟨u, rfl⟩ : ∃ u : Nat, n = (u : Int) := ⟨n.toNat, by omega⟩
  unfold i64 at h
  rw [itoa_nat]
  exact spec_l1Num_nat u (by omega)
theorem spec_l1Int_eq {n : Int} (h : i64 n) : Ev (fun k => qhpz.f k n) (bL (Lib.itoa n)) := by
  have h' := h
  unfold i64 at h'
  refine qhpz.v ?_
  by_cases hn : n < 0
  · obtain ⟨u, rfl⟩ : ∃ u : Nat, n = -(u : Int) := ⟨n.natAbs, by omega⟩
    have hl := dec_len (u := u) (k := 18) (by omega)
    have hM := hML
    rw [itoa_neg (by omega)]
    simp (disch := omega) only [S, Int.zero_sub, Int.neg_neg]
    refine Ev.bind (spec_l1Num_nat u (by omega)) ?_
    simp (disch := omega) only [S, bL_size, show bs [45] = bL [45] from rfl, bL_app]
    exact Ev.now _
  · simp (disch := omega) only [S]
    exact Ev.bind (spec_l1Num_eq (by omega) h) (Ev.now _)
def numT (c : UInt8) (L : List Int) : List UInt8 := Lib.join (L.map Lib.itoa) [c]
theorem numT_len {c : UInt8} {L : List Int} (h : ∀ n ∈ L, i64 n) : (numT c L).length ≤ L.length * 21 := by
  have := join_len (s := [c]) (L := L.map Lib.itoa) (m := 20) fun w hw => by
    obtain ⟨n, hn, rfl⟩ := List.mem_map.1 hw
    exact itoa20 (h n hn)
  unfold numT
  simpa using this
theorem impl_joinNumbers_eq {L : List Int} {c : UInt8} (hL : L.length ≤ 1000000) (hn : ∀ n ∈ L, i64 n) : Ev (fun k => qcxz.f k L (bL [c])) (bL (numT c L)) := by
  have hlm : (L.map Lib.itoa).length = L.length := List.length_map _
  have hm : ∀ w ∈ L.map Lib.itoa, w.length ≤ 20 := fun w hw => by
    obtain ⟨n, h, rfl⟩ := List.mem_map.1 hw
    exact itoa20 (hn n h)
  refine qcxz.v ?_
  simp (disch := omega) only [S]
  rw [← hlm]
  refine fill_run (F := fun k i xs => qcxz.l0 k (bL [c]) L ((L.map Lib.itoa).length : Int) i xs) ?_ ?_
  · refine qcxz.v0 ?_
    simp (disch := omega) only [S, strings_Join_eq hm (by omega) (by omega)]
    exact Ev.now _
  · intro i xs hi hx h
    have hi' : i < L.length := by omega
    refine qcxz.v0 ?_
    simp (disch := omega) only [S, strconv_Itoa_eq (hn _ (getD_mem (z := 0) hi'))]
    have e : (L.map Lib.itoa).getD i [] = Lib.itoa (L.getD i 0) := by simp [hi']
    rw [e] at h
    exact h
theorem impl_number_eq {n : Int} (h : i64 n) (b : Bool) : qguz.f n b = some (bL (Lib.itoa n), b) := by
  unfold qguz.f
  simp only [strconv_Itoa_eq h, S]
def minusT : List UInt8 := [45]
def noT : List UInt8 := [110, 111]
def numsT (L : List Int) : List UInt8 := if L.length = 0 then minusT else numT 44 L
theorem impl_numbers_eq {L : List Int} (hL : L.length ≤ 1000000) (hn : ∀ n ∈ L, i64 n) (b : Bool) : Ev (fun k => qfjz.f k L b) (bL (numsT L), b) := by
  refine qfjz.v ?_
  unfold numsT
  by_cases h : L.length = 0
  · rw [if_pos h]
    simp (disch := omega) only [S]
    exact Ev.now _
  · rw [if_neg h]
    simp (disch := omega) only [S]
    exact Ev.bind (impl_joinNumbers_eq (c := 44) hL hn) (Ev.now _)
theorem impl_told_eq {a b : Int} (ha : i64 a) (hb : i64 b) (t : Bool) : Ev (fun k => qhyz.f k a b t) (bL (numT 47 [a, b]), t) := by
  refine qhyz.v (Ev.bind (impl_joinNumbers_eq (c := 47) (L := [a, b]) (by simp) ?_) (Ev.now _))
  intro n h
  simp only [List.mem_cons, List.not_mem_nil, or_false] at h
  rcases h with rfl | rfl
  · exact ha
  · exact hb
def rowsT (c1 c2 : UInt8) (L : List (List Int)) : List UInt8 := Lib.join (L.map (numT c1)) [c2]
theorem impl_lists_eq {L : List (List Int)} {c1 c2 : UInt8} (h0 : 0 < L.length) (hL : L.length ≤ 1000) (hr : ∀ r ∈ L, r.length ≤ 1000 ∧ ∀ n ∈ r, i64 n) (b : Bool) : Ev (fun k => qhsz.f k L (bL [c1]) (bL [c2]) b) (bL (rowsT c1 c2 L), b) := by
  have hlm : (L.map (numT c1)).length = L.length := List.length_map _
  have hm : ∀ w ∈ L.map (numT c1), w.length ≤ 21000 := fun w hw => by
    obtain ⟨r, h, rfl⟩ := List.mem_map.1 hw
    have := numT_len (c := c1) (hr r h).2
    have := (hr r h).1
    omega
  refine qhsz.v ?_
  simp (disch := omega) only [S]
  rw [← hlm]
  refine fill_run (F := fun k i xs => qhsz.l0 k (bL [c1]) (bL [c2]) b L ((L.map (numT c1)).length : Int) i xs) ?_ ?_
  · refine qhsz.v0 ?_
    simp (disch := omega) only [S, strings_Join_eq hm (by omega) (by omega)]
    exact Ev.now _
  · intro i xs hi hx h
    have hi' : i < L.length := by omega
    obtain ⟨q1, q2⟩ := hr _ (getD_mem (z := []) hi')
    refine qhsz.v0 ?_
    simp (disch := omega) only [S]
    refine Ev.bind (impl_joinNumbers_eq (c := c1) (by omega) q2) ?_
    have e : (L.map (numT c1)).getD i [] = numT c1 (L.getD i []) := by simp [hi']
    rw [e] at h
    exact h
def partSays (a b : Int) (t : Bool) : List UInt8 := if t = true then numT 47 [a, b] else noT
theorem numT2 (c : UInt8) (a b : Int) : numT c [a, b] = Lib.itoa a ++ [c] ++ Lib.itoa b := by
  unfold numT
  rw [List.map_cons, List.map_cons, List.map_nil, Lib.join_cons]
  simp [Lib.joinTail]
theorem spec_coPart_eq {a b : Int} (ha : i64 a) (hb : i64 b) (t : Bool) : Ev (fun k => qgnz.f k a b t) (bL (partSays a b t)) := by
  have hM := hML
  have h1 := itoa20 ha
  have h2 := itoa20 hb
  refine qgnz.v ?_
  cases t with
  | false => simp only [S]; exact Ev.now _
  | true =>
    simp only [S]
    refine Ev.bind (spec_l1Int_eq ha) ?_
    simp (disch := omega) only [S, bL_size]
    refine Ev.bind (spec_l1Int_eq hb) ?_
    simp (disch := omega) only [S, bL_size, show bs [47] = bL [47] from rfl, bL_app, List.length_append, List.length_cons, List.length_nil]
    refine ev_now ?_
    unfold partSays
    rw [if_pos rfl, numT2]
theorem spec_coText_loop {L : List Int} (hL : L.length ≤ 1000000) (hn : ∀ n ∈ L, i64 n) : Ev (fun k => qgkz.l0 k (bs []) L (L.length : Int) 0) (bL (numT 44 L)) := by
  have hM := hML
  have hlm : (L.map Lib.itoa).length = L.length := List.length_map _
  have hm : ∀ w ∈ L.map Lib.itoa, w.length ≤ 20 := fun w hw => by
    obtain ⟨n, h, rfl⟩ := List.mem_map.1 hw
    exact itoa20 (hn n h)
  rw [← hlm]
  refine join_run (F := fun k x i => qgkz.l0 k x L ((L.map Lib.itoa).length : Int) i) (c := 44) hm (by omega) ?_ ?_
  · intro x
    refine qgkz.v0 ?_
    simp (disch := omega) only [S]
    exact Ev.now _
  · intro i x r hi hx h
    have hi' : i < L.length := by omega
    have hq := hn _ (getD_mem (z := 0) hi')
    have h20 := itoa20 hq
    have e : (L.map Lib.itoa).getD i [] = Lib.itoa (L.getD i 0) := by simp [hi']
    rw [e] at h
    refine qgkz.v0 ?_
    by_cases h0 : i = 0
    · subst h0
      simp (disch := omega) only [S]
      refine Ev.bind (spec_l1Int_eq hq) ?_
      simp (disch := omega) only [S, bL_size, bL_app]
      simpa using h
    · rw [if_neg h0] at h
      simp (disch := omega) only [S, bL_size]
      refine Ev.bind (spec_l1Int_eq hq) ?_
      simp (disch := omega) only [S, show bs [44] = bL [44] from rfl, bL_app, bL_size, List.length_append, List.length_cons, List.length_nil]
      exact h
def textSays (L : List Int) (t : Bool) : List UInt8 := if t = true then numsT L else noT
theorem spec_coText_eq {L : List Int} (hL : L.length ≤ 1000000) (hn : ∀ n ∈ L, i64 n) (t : Bool) : Ev (fun k => qgkz.f k L t) (bL (textSays L t)) := by
  refine qgkz.v ?_
  unfold textSays
  cases t with
  | false => simp only [S]; exact Ev.now _
  | true =>
    unfold numsT
    by_cases h : L.length = 0
    · rw [if_pos rfl, if_pos h]
      simp (disch := omega) only [S]
      exact Ev.now _
    · rw [if_pos rfl, if_neg h]
      simp (disch := omega) only [S]
      exact spec_coText_loop hL hn
theorem spec_coRows_eq {L : List (List Int)} (h0 : 0 < L.length) (hL : L.length ≤ 1000) (hr : ∀ r ∈ L, (0 < r.length ∧ r.length ≤ 1000) ∧ ∀ n ∈ r, i64 n) : Ev (fun k => qgoz.f k L true) (bL (rowsT 44 32 L)) := by
  have hM := hML
  have hlm : (L.map (numT 44)).length = L.length := List.length_map _
  have hm : ∀ w ∈ L.map (numT 44), w.length ≤ 21000 := fun w hw => by
    obtain ⟨r, h, rfl⟩ := List.mem_map.1 hw
    have := numT_len (c := 44) (hr r h).2
    have := (hr r h).1
    omega
  refine qgoz.v ?_
  simp (disch := omega) only [S]
  rw [← hlm]
  refine join_run (F := fun k x i => qgoz.l0 k x L ((L.map (numT 44)).length : Int) i) (c := 32) hm (by omega) ?_ ?_
  · intro x
    refine qgoz.v0 ?_
    simp (disch := omega) only [S]
    exact Ev.now _
  · intro i x r hi hx h
    have hi' : i < L.length := by omega
    obtain ⟨q1, q2⟩ := hr _ (getD_mem (z := []) hi')
    have hlen := numT_len (c := 44) q2
    have e : (L.map (numT 44)).getD i [] = numT 44 (L.getD i []) := by simp [hi']
    have ht := spec_coText_eq (L := L.getD i []) (by omega) q2 true
    have e2 : textSays (L.getD i []) true = numT 44 (L.getD i []) := by unfold textSays numsT; rw [if_pos rfl, if_neg (by omega)]
    rw [e2] at ht
    rw [e] at h
    refine qgoz.v0 ?_
    by_cases h0 : i = 0
    · subst h0
      simp (disch := omega) only [S]
      refine Ev.bind ht ?_
      simp (disch := omega) only [S, bL_size, bL_app]
      simpa using h
    · rw [if_neg h0] at h
      simp (disch := omega) only [S, bL_size]
      refine Ev.bind ht ?_
      simp (disch := omega) only [S, show bs [32] = bL [32] from rfl, bL_app, bL_size, List.length_append, List.length_cons, List.length_nil]
      exact h
theorem spec_coParts_eq {L : List (List Int)} (hL : L.length ≤ 1000) (hr : ∀ r ∈ L, r.length = 2 ∧ ∀ n ∈ r, i64 n) : Ev (fun k => qfuz.f k L true) (bL (rowsT 47 44 L)) := by
  have hM := hML
  have hlm : (L.map (numT 47)).length = L.length := List.length_map _
  have hm : ∀ w ∈ L.map (numT 47), w.length ≤ 42 := fun w hw => by
    obtain ⟨r, h, rfl⟩ := List.mem_map.1 hw
    have := numT_len (c := 47) (hr r h).2
    have := (hr r h).1
    omega
  refine qfuz.v ?_
  simp (disch := omega) only [S]
  rw [← hlm]
  refine join_run (F := fun k x i => qfuz.l0 k x L ((L.map (numT 47)).length : Int) i) (c := 44) hm (by omega) ?_ ?_
  · intro x
    refine qfuz.v0 ?_
    simp (disch := omega) only [S]
    exact Ev.now _
  · intro i x r hi hx h
    have hi' : i < L.length := by omega
    obtain ⟨q1, q2⟩ := hr _ (getD_mem (z := []) hi')
    obtain ⟨a, b, eab⟩ := len2 q1
    have hlen := numT_len (c := 47) q2
    have e : (L.map (numT 47)).getD i [] = numT 47 (L.getD i []) := by simp [hi']
    rw [eab] at q2 e hlen
    have ht := spec_coPart_eq (a := a) (b := b) (q2 a (by simp)) (q2 b (by simp)) true
    have e2 : partSays a b true = numT 47 [a, b] := rfl
    rw [e2] at ht
    rw [e] at h
    simp only [List.length_cons, List.length_nil] at hlen
    refine qfuz.v0 ?_
    by_cases h0 : i = 0
    · subst h0
      simp (disch := omega) only [S, eab, List.length_cons, List.length_nil, rd0, rd1]
      refine Ev.bind ht ?_
      simp (disch := omega) only [S, bL_size, bL_app]
      simpa using h
    · rw [if_neg h0] at h
      simp (disch := omega) only [S, bL_size, eab, List.length_cons, List.length_nil, rd0, rd1]
      refine Ev.bind ht ?_
      simp (disch := omega) only [S, show bs [44] = bL [44] from rfl, bL_app, bL_size, List.length_append, List.length_cons, List.length_nil]
      exact h
theorem spec_coNumber_eq {n : Int} (h0 : 0 ≤ n) (h : i64 n) (t : Bool) : Ev (fun k => qesz.f k n t) (bL (if t = true then Lib.itoa n else noT)) := by
  refine qesz.v ?_
  cases t with
  | false => simp only [S]; exact Ev.now _
  | true => simp only [S]; exact Ev.bind (spec_l1Num_eq h0 h) (Ev.now _)
def wkT (l : List Wk) : List UInt8 := rowsT 58 44 (l.map fun w => [w.1, w.2])
theorem wkT_eq (l : List Wk) : wkT l = Lib.join (l.map fun w => numT 58 [w.1, w.2]) [44] := by
  unfold wkT rowsT
  rw [List.map_map]
  rfl
theorem impl_WalkersText_eq (l : List Wk) : Ev (fun k => qclz.f k l) (if listOk 8 wOk l = true then (bL (wkT l), true) else (bs [], false)) := by
  refine qclz.v (Ev.bind (impl_AreWalkers_eq l) ?_)
  cases hok : listOk 8 wOk l with
  | false => simp only [S]; exact Ev.now _
  | true =>
    obtain ⟨h1, h2⟩ := listOk_iff.1 hok
    have hlm : (l.map fun w => numT 58 [w.1, w.2]).length = l.length := List.length_map _
    have hi64 : ∀ w ∈ l, ∀ n ∈ [w.1, w.2], i64 n := by
      intro w hw n hn
      have := wOk_iff.1 (h2 w hw)
      unfold i64
      simp only [List.mem_cons, List.not_mem_nil, or_false] at hn
      omega
    have hm : ∀ x ∈ l.map fun w => numT 58 [w.1, w.2], x.length ≤ 42 := fun x hx => by
      obtain ⟨w, hw, rfl⟩ := List.mem_map.1 hx
      have := numT_len (c := 58) (hi64 w hw)
      simpa using this
    simp (disch := omega) only [S]
    rw [wkT_eq]
    have hg : ∀ i, i < l.length → (l.map fun w => numT 58 [w.1, w.2]).getD i [] = numT 58 [(l.getD i (0, 0)).1, (l.getD i (0, 0)).2] := fun i hi => by simp [hi]
    generalize (l.map fun w => numT 58 [w.1, w.2]) = L at *
    rw [← hlm]
    refine fill_run (F := fun k i xs => qclz.l0 k l (L.length : Int) i xs) ?_ ?_
    · refine qclz.v0 ?_
      simp (disch := omega) only [S, show bs [44] = bL [44] from rfl, strings_Join_eq hm (by omega) (by omega)]
      exact Ev.now _
    · intro i xs hi hx h
      have hi' : i < l.length := by omega
      refine qclz.v0 ?_
      simp (disch := omega) only [S]
      refine Ev.bind (impl_joinNumbers_eq (c := 58) (by simp) (hi64 _ (getD_mem (z := (0, 0)) hi'))) ?_
      rw [hg i hi'] at h
      exact h
theorem spec_meText_eq {l : List Wk} (hok : listOk 8 wOk l = true) : Ev (fun k => qggz.f k l) (bL (wkT l)) := by
  have hM := hML
  obtain ⟨h1, h2⟩ := listOk_iff.1 hok
  have hlm : (l.map fun w => numT 58 [w.1, w.2]).length = l.length := List.length_map _
  have hm : ∀ x ∈ l.map fun w => numT 58 [w.1, w.2], x.length ≤ 42 := fun x hx => by
    obtain ⟨w, hw, rfl⟩ := List.mem_map.1 hx
    have := numT_len (c := 58) (L := [w.1, w.2]) (fun n hn => by
      have := wOk_iff.1 (h2 w hw)
      unfold i64
      simp only [List.mem_cons, List.not_mem_nil, or_false] at hn
      omega)
    simpa using this
  refine qggz.v ?_
  simp only [S]
  rw [wkT_eq]
  have hg : ∀ i, i < l.length → (l.map fun w => numT 58 [w.1, w.2]).getD i [] = numT 58 [(l.getD i (0, 0)).1, (l.getD i (0, 0)).2] := fun i hi => by simp [hi]
  generalize (l.map fun w => numT 58 [w.1, w.2]) = L at *
  rw [← hlm]
  refine join_run (F := fun k x i => qggz.l0 k x l (L.length : Int) i) (c := 44) hm (by omega) ?_ ?_
  · intro x
    refine qggz.v0 ?_
    simp (disch := omega) only [S]
    exact Ev.now _
  · intro i x r hi hx h
    have hi' : i < l.length := by omega
    have hw := wOk_iff.1 (h2 _ (getD_mem (z := (0, 0)) hi'))
    have ha : i64 (l.getD i (0, 0)).1 := by unfold i64; omega
    have hb : i64 (l.getD i (0, 0)).2 := by unfold i64; omega
    have la := itoa20 ha
    have lb := itoa20 hb
    rw [hg i hi', numT2] at h
    refine qggz.v0 ?_
    by_cases h0 : i = 0
    · subst h0
      simp (disch := omega) only [S]
      refine Ev.bind (spec_l1Int_eq ha) ?_
      simp (disch := omega) only [S, bL_size, show bs [58] = bL [58] from rfl, bL_app]
      refine Ev.bind (spec_l1Int_eq hb) ?_
      simp (disch := omega) only [S, bL_size, bL_app, List.length_append, List.length_cons, List.length_nil]
      simpa using h
    · rw [if_neg h0] at h
      simp (disch := omega) only [S, bL_size]
      refine Ev.bind (spec_l1Int_eq ha) ?_
      simp (disch := omega) only [S, bL_size, show bs [58] = bL [58] from rfl, bL_app]
      refine Ev.bind (spec_l1Int_eq hb) ?_
      simp (disch := omega) only [S, show bs [44] = bL [44] from rfl, bL_app, bL_size, List.length_append, List.length_cons, List.length_nil]
      exact h
def low1 (n d : Int) : Int × Int := (Int.tdiv n (Int.gcd d n : Nat), Int.tdiv d (Int.gcd d n : Nat))
def low (n d : Int) : Int × Int := if d < 0 then low1 (-n) (-d) else low1 n d
theorem gcd_pos' {n d : Int} (h : 0 < d) : 0 < ((Int.gcd d n : Nat) : Int) := by
  have : 0 < Int.gcd d n := Int.gcd_pos_of_ne_zero_left _ (by omega)
  omega
theorem low1_spec {n d : Int} (h : 0 < d) : ∃ g : Int, 0 < g ∧ n = (low1 n d).1 * g ∧ d = (low1 n d).2 * g ∧ 0 < (low1 n d).2 ∧ Int.gcd (low1 n d).1 (low1 n d).2 = 1 := by
  have hg := gcd_pos' (n := n) h
  have e1 : n = (low1 n d).1 * (Int.gcd d n : Nat) := (Int.tdiv_mul_cancel (Int.gcd_dvd_right d n)).symm
  have e2 : d = (low1 n d).2 * (Int.gcd d n : Nat) := (Int.tdiv_mul_cancel (Int.gcd_dvd_left d n)).symm
  have e3 : 0 < (low1 n d).2 := by
    rcases Int.lt_or_le 0 (low1 n d).2 with h1 | h1
    · exact h1
    · have := Int.mul_nonneg (a := -(low1 n d).2) (b := (Int.gcd d n : Nat)) (by omega) (by omega)
      rw [Int.neg_mul] at this
      omega
  refine ⟨_, hg, e1, e2, e3, ?_⟩
  have h4 : Int.gcd ((low1 n d).1 * (Int.gcd d n : Nat)) ((low1 n d).2 * (Int.gcd d n : Nat)) = Int.gcd d n := by
    rw [← e1, ← e2, Int.gcd_comm]
  rw [Int.gcd_mul_right, Int.natAbs_natCast] at h4
  have hg' : 0 < Int.gcd d n := by omega
  exact Nat.eq_of_mul_eq_mul_right hg' (by omega)
theorem low1_eq {n d : Int} (h : 0 < d) : (low1 n d).1 * d = n * (low1 n d).2 := by
  obtain ⟨g, g0, e1, e2, e3, e4⟩ := low1_spec (n := n) h
  calc _ = (low1 n d).1 * ((low1 n d).2 * g) := by rw [← e2]
    _ = (low1 n d).1 * g * (low1 n d).2 := by ac_rfl
    _ = _ := by rw [← e1]
theorem tdiv_bd (n g : Int) : Int.natAbs (Int.tdiv n g) ≤ Int.natAbs n := by
  rw [Int.natAbs_tdiv]; exact Nat.div_le_self _ _
theorem low_d {n d : Int} (h : d ≠ 0) : 0 < (low n d).2 := by
  unfold low
  split
  · obtain ⟨_, _, _, _, h, _⟩ := low1_spec (n := -n) (d := -d) (by omega)
    exact h
  · obtain ⟨_, _, _, _, h, _⟩ := low1_spec (n := n) (d := d) (by omega)
    exact h
theorem low_eq {n d : Int} (h : d ≠ 0) : (low n d).1 * d = n * (low n d).2 := by
  unfold low
  split
  · have := low1_eq (n := -n) (d := -d) (by omega)
    rw [Int.mul_neg, Int.neg_mul] at this
    omega
  · exact low1_eq (by omega)
theorem low_bd (n d : Int) : (low n d).1.natAbs ≤ n.natAbs ∧ (low n d).2.natAbs ≤ d.natAbs := by
  unfold low low1
  split
  · have h1 := tdiv_bd (-n) (Int.gcd (-d) (-n) : Nat)
    have h2 := tdiv_bd (-d) (Int.gcd (-d) (-n) : Nat)
    rw [Int.natAbs_neg] at h1 h2
    exact ⟨h1, h2⟩
  · exact ⟨tdiv_bd _ _, tdiv_bd _ _⟩
theorem low_neg {n d : Int} (h : d ≠ 0) : low (-n) (-d) = low n d := by
  unfold low
  by_cases h0 : d < 0
  · rw [if_neg (by omega), if_pos h0]
  · rw [if_pos (by omega), if_neg h0, Int.neg_neg, Int.neg_neg]
theorem low_sign {n d : Int} (h : d ≠ 0) : ((low n d).1 < 0 ↔ (n < 0 ∧ 0 < d) ∨ (0 < n ∧ d < 0)) ∧ ((low n d).1 = 0 ↔ n = 0) := by
  have h1 := low_eq (n := n) h
  have h2 := low_d (n := n) h
  generalize (low n d).1 = p at *
  generalize (low n d).2 = q at *
  rcases Int.lt_trichotomy d 0 with hd | hd | hd
  · rcases Int.lt_trichotomy p 0 with hp | hp | hp
    · have := Int.mul_pos_of_neg_of_neg hp hd
      have : 0 < n := by
        rcases Int.lt_or_le 0 n with h3 | h3
        · exact h3
        · have := Int.mul_nonpos_of_nonpos_of_nonneg h3 (Int.le_of_lt h2); omega
      omega
    · subst hp
      rw [Int.zero_mul] at h1
      have : n = 0 := (Int.mul_eq_zero.1 h1.symm).resolve_right (by omega)
      omega
    · have := Int.mul_neg_of_pos_of_neg hp hd
      have : n < 0 := by
        rcases Int.lt_or_le n 0 with h3 | h3
        · exact h3
        · have := Int.mul_nonneg h3 (Int.le_of_lt h2); omega
      omega
  · exact absurd hd h
  · rcases Int.lt_trichotomy p 0 with hp | hp | hp
    · have := Int.mul_neg_of_neg_of_pos hp hd
      have : n < 0 := by
        rcases Int.lt_or_le n 0 with h3 | h3
        · exact h3
        · have := Int.mul_nonneg h3 (Int.le_of_lt h2); omega
      omega
    · subst hp
      rw [Int.zero_mul] at h1
      have : n = 0 := (Int.mul_eq_zero.1 h1.symm).resolve_right (by omega)
      omega
    · have := Int.mul_pos hp hd
      have : 0 < n := by
        rcases Int.lt_or_le 0 n with h3 | h3
        · exact h3
        · have := Int.mul_nonpos_of_nonpos_of_nonneg h3 (Int.le_of_lt h2); omega
      omega
theorem impl_absOf_eq {n : Int} (h : i64 n) : qhtz.f n = some ((n.natAbs : Nat) : Int) := by
  unfold i64 at h
  unfold qhtz.f mx
  rw [w64 (by omega) (by omega)]
  refine congrArg some ?_
  split <;> omega
theorem spec_l1Abs_eq {n : Int} (h : i64 n) : qhkz.f n = some ((n.natAbs : Nat) : Int) := by
  unfold i64 at h
  unfold qhkz.f qgcz.f
  rw [w64 (by omega) (by omega)]
  by_cases h0 : 0 < n
  · simp (disch := omega) only [S]
    exact congrArg some (by omega)
  · by_cases h1 : n = 0
    · subst h1; rfl
    · simp (disch := omega) only [S]
      exact congrArg some (by omega)
theorem div_loop (b : Nat) : ∀ a : Nat, Ev (fun k => qelz.l0 k (a : Int) (b : Int)) ((Nat.gcd a b : Nat) : Int) := by
  induction b using Nat.strongRecOn with
  | _ b ih =>
    intro a
    refine qelz.v0 ?_
    rcases Nat.eq_zero_or_pos b with rfl | hb
    · rw [Nat.gcd_zero_right]
      simp (disch := omega) only [S]
      exact Ev.now _
    · simp (disch := omega) only [S, if_neg (show ¬ (b : Int) = 0 by omega)]
      have e : Nat.gcd a b = Nat.gcd b (a % b) := by rw [Nat.gcd_comm a b, Nat.gcd_rec, Nat.gcd_comm]
      have := ih (a % b) (Nat.mod_lt _ hb) b
      rw [Int.ofNat_tmod, ← e] at this
      exact this
theorem impl_divisorOf_eq (a b : Nat) : Ev (fun k => qelz.f k (a : Int) (b : Int)) ((Nat.gcd a b : Nat) : Int) := qelz.v (div_loop b a)
theorem tdiv_W {n : Int} (g : Int) (h : i64 n) : W (Int.tdiv n g) = Int.tdiv n g := by
  have := tdiv_bd n g
  unfold i64 at h
  exact w64 (by omega) (by omega)
theorem impl_lowest_eq {n d : Int} (hn : i64 n) (hd : i64 d) (h : d ≠ 0) : Ev (fun k => qgyz.f k n d) (low n d) := by
  have key : ∀ n d : Int, i64 n → i64 d → 0 < d → ∃ g : Int, g ≠ 0 ∧ (n.tdiv g, d.tdiv g) = low1 n d ∧ Ev (fun k => qelz.f k d ((n.natAbs : Nat) : Int)) g := by
    intro n d hn hd h0
    have hg := gcd_pos' (n := n) h0
    refine ⟨((Int.gcd d n : Nat) : Int), by omega, rfl, ?_⟩
    obtain ⟨m, rfl⟩ : ∃ m : Nat, d = m := ⟨d.toNat, by omega⟩
    exact impl_divisorOf_eq m n.natAbs
  have hn' := hn
  have hd' := hd
  unfold i64 at hn' hd'
  unfold low
  refine qgyz.v ?_
  by_cases h0 : d < 0
  · obtain ⟨g, g0, e, hE⟩ := key (-n) (-d) (by unfold i64; omega) (by unfold i64; omega) (by omega)
    rw [if_pos h0, ← e]
    simp (disch := omega) only [S, Int.zero_sub, impl_absOf_eq (show i64 (-n) by unfold i64; omega)]
    refine Ev.bind hE ?_
    simp only [if_neg g0, tdiv_W g (show i64 (-n) by unfold i64; omega), tdiv_W g (show i64 (-d) by unfold i64; omega)]
    exact Ev.now _
  · obtain ⟨g, g0, e, hE⟩ := key n d hn hd (by omega)
    rw [if_neg h0, ← e]
    simp (disch := omega) only [S, impl_absOf_eq hn]
    refine Ev.bind hE ?_
    simp only [if_neg g0, tdiv_W g hn, tdiv_W g hd]
    exact Ev.now _
theorem spec_meLow_loop {n d : Int} (hn : i64 n) (hd : i64 d) (b : Nat) : ∀ a : Nat, 0 < Nat.gcd a b →
    Ev (fun k => qhqz.l0 k n d (a : Int) (b : Int)) (Int.tdiv n (Nat.gcd a b : Nat), Int.tdiv d (Nat.gcd a b : Nat)) := by
  induction b using Nat.strongRecOn with
  | _ b ih =>
    intro a hg
    refine qhqz.v0 ?_
    rcases Nat.eq_zero_or_pos b with rfl | hb
    · rw [Nat.gcd_zero_right] at hg ⊢
      simp (disch := omega) only [S, if_neg (show ¬ (a : Int) = 0 by omega), tdiv_W _ hn, tdiv_W _ hd]
      exact Ev.now _
    · simp (disch := omega) only [S, if_neg (show ¬ (b : Int) = 0 by omega)]
      have e : Nat.gcd a b = Nat.gcd b (a % b) := by rw [Nat.gcd_comm a b, Nat.gcd_rec, Nat.gcd_comm]
      rw [e] at hg ⊢
      have := ih (a % b) (Nat.mod_lt _ hb) b hg
      rw [Int.ofNat_tmod] at this
      exact this
theorem spec_meLow_eq {n d : Int} (hn : i64 n) (hd : i64 d) (h : d ≠ 0) : Ev (fun k => qhqz.f k n d) (low n d) := by
  have key : ∀ n d : Int, i64 n → i64 d → 0 < d → Ev (fun k => qhqz.l0 k n d ((n.natAbs : Nat) : Int) d) (low1 n d) := by
    intro n d hn hd h0
    obtain ⟨m, rfl⟩ : ∃ m : Nat, d = m := ⟨d.toNat, by omega⟩
    have hg : 0 < Nat.gcd n.natAbs m := Nat.gcd_pos_of_pos_right _ (by omega)
    have := spec_meLow_loop hn hd m n.natAbs hg
    rw [Nat.gcd_comm] at this
    exact this
  have hn' := hn
  have hd' := hd
  unfold i64 at hn' hd'
  unfold low
  refine qhqz.v ?_
  by_cases h0 : d < 0
  · rw [if_pos h0]
    simp (disch := omega) only [S, Int.zero_sub, spec_l1Abs_eq (show i64 (-n) by unfold i64; omega)]
    exact key (-n) (-d) (by unfold i64; omega) (by unfold i64; omega) (by omega)
  · rw [if_neg h0]
    simp (disch := omega) only [S, spec_l1Abs_eq hn]
    exact key n d hn hd (by omega)
abbrev R3 := Int × (Int × Bool)
def noR : R3 := (0, (0, false))
def Same3 (F G : Fu → Option R3) : Prop := ∃ r : R3, Ev F r ∧ Ev G r ∧ i64 r.1 ∧ i64 r.2.1
theorem i64_0 : i64 0 := by unfold i64; omega
theorem i64_1 : i64 1 := by unfold i64; omega
theorem Same3.no {F G : Fu → Option R3} (h : Ev F noR) (k : Ev G noR) : Same3 F G := ⟨noR, h, k, i64_0, i64_0⟩
theorem low_i64 {n d : Int} (hn : i64 n) (hd : i64 d) : i64 (low n d).1 ∧ i64 (low n d).2 := by
  have := low_bd n d
  unfold i64 at *
  omega
theorem Same3.frac {n d n' d' : Int} (hn : i64 n) (hd : i64 d) (h : d ≠ 0) (e1 : n' = n) (e2 : d' = d) :
    Same3 (fun k => (qgyz.f k n d).bind fun t => some (t.1, (t.2, true))) (fun k => (qhqz.f k n' d').bind fun t => some (t.1, (t.2, true))) := by
  subst e1 e2
  exact ⟨((low n' d').1, ((low n' d').2, true)), Ev.bind (impl_lowest_eq hn hd h) (Ev.now _), Ev.bind (spec_meLow_eq hn hd h) (Ev.now _), (low_i64 hn hd).1, (low_i64 hn hd).2⟩
def meet (w v : Wk) : R3 := if w.1 = v.1 then (0, (1, true)) else if w.2 = v.2 then noR else if (low (v.1 - w.1) (w.2 - v.2)).1 < 0 then noR else ((low (v.1 - w.1) (w.2 - v.2)).1, ((low (v.1 - w.1) (w.2 - v.2)).2, true))
theorem meet_bd {w v : Wk} (hw : wOk w = true) (hv : wOk v = true) : (0 ≤ (meet w v).1 ∧ (meet w v).1 ≤ 2000) ∧ (0 ≤ (meet w v).2.1 ∧ (meet w v).2.1 ≤ 200) ∧ ((meet w v).2.2 = true → 0 < (meet w v).2.1) := by
  have h1 := wOk_iff.1 hw
  have h2 := wOk_iff.1 hv
  unfold meet noR
  split
  · simp
  · split
    · simp
    · rename_i hs
      have b := low_bd (v.1 - w.1) (w.2 - v.2)
      have := low_d (n := v.1 - w.1) (d := w.2 - v.2) (by omega)
      split
      · simp
      · simp only []
        omega
theorem impl_meetingTime_eq {w v : Wk} (hw : wOk w = true) (hv : wOk v = true) : Ev (fun k => qddz.f k w.1 w.2 v.1 v.2) (meet w v) := by
  have h1 := wOk_iff.1 hw
  have h2 := wOk_iff.1 hv
  refine qddz.v ?_
  unfold meet
  by_cases hp : w.1 = v.1
  · rw [if_pos hp]
    simp (disch := omega) only [S]
    exact Ev.now _
  · rw [if_neg hp]
    by_cases hs : w.2 = v.2
    · rw [if_pos hs]
      simp (disch := omega) only [S]
      exact Ev.now _
    · rw [if_neg hs]
      simp (disch := omega) only [S]
      refine Ev.bind (impl_lowest_eq (by unfold i64; omega) (by unfold i64; omega) (by omega)) ?_
      by_cases hn : (low (v.1 - w.1) (w.2 - v.2)).1 < 0
      · simp (disch := omega) only [S, if_pos hn]
        exact Ev.now _
      · simp (disch := omega) only [S, if_neg hn]
        exact Ev.now _
theorem spec_meMeet_eq {w v : Wk} (hw : wOk w = true) (hv : wOk v = true) : Ev (fun k => qgvz.f k w.1 w.2 v.1 v.2) (meet w v) := by
  have h1 := wOk_iff.1 hw
  have h2 := wOk_iff.1 hv
  refine qgvz.v ?_
  unfold meet
  by_cases hp : w.1 = v.1
  · rw [if_pos hp]
    simp (disch := omega) only [S]
    exact Ev.now _
  · rw [if_neg hp]
    by_cases hs : w.2 = v.2
    · rw [if_pos hs]
      simp (disch := omega) only [S]
      exact Ev.now _
    · rw [if_neg hs]
      have hsg := (low_sign (n := v.1 - w.1) (d := w.2 - v.2) (by omega)).1
      have hl := spec_meLow_eq (n := v.1 - w.1) (d := w.2 - v.2) (by unfold i64; omega) (by unfold i64; omega) (by omega)
      by_cases a : 0 < v.1 - w.1
      · by_cases b : 0 < w.2 - v.2
        · rw [if_neg (fun h => by have := hsg.1 h; omega)]
          simp (disch := omega) only [S, beq_self_eq_true]
          exact Ev.bind hl (Ev.now _)
        · rw [if_pos (hsg.2 (by omega))]
          simp (disch := omega) only [S]
          exact Ev.now _
      · by_cases b : 0 < w.2 - v.2
        · rw [if_pos (hsg.2 (by omega))]
          simp (disch := omega) only [S]
          exact Ev.now _
        · rw [if_neg (fun h => by have := hsg.1 h; omega)]
          simp (disch := omega) only [S, beq_self_eq_true]
          exact Ev.bind hl (Ev.now _)
theorem MeetingTime_same {w v : Wk} (hw : wOk w = true) (hv : wOk v = true) : Same3 (fun k => qcpz.f k w.1 w.2 v.1 v.2) (fun k => qcsz.f k w.1 w.2 v.1 v.2) := by
  have hb := meet_bd hw hv
  refine ⟨meet w v, qcpz.v ?_, qcsz.v ?_, by unfold i64; omega, by unfold i64; omega⟩
  · simp only [impl_IsWalker_eq, S, hw, hv]
    exact Ev.bind (impl_meetingTime_eq hw hv) (Ev.now _)
  · simp only [spec_meGood_eq, S, hw, hv]
    exact Ev.bind (spec_meMeet_eq hw hv) (Ev.now _)
theorem spec_MeetingTime_eq {w v : Wk} (hw : wOk w = true) (hv : wOk v = true) : Ev (fun k => qcsz.f k w.1 w.2 v.1 v.2) (meet w v) := by
  refine qcsz.v ?_
  simp only [spec_meGood_eq, S, hw, hv]
  exact Ev.bind (spec_meMeet_eq hw hv) (Ev.now _)
theorem place_bd {w : Wk} (hw : wOk w = true) {n d N D : Int} (hn : 0 ≤ n ∧ n ≤ N) (hd : 0 ≤ d ∧ d ≤ D) : (-(1000 * D) ≤ w.1 * d ∧ w.1 * d ≤ 1000 * D) ∧ (-(100 * N) ≤ w.2 * n ∧ w.2 * n ≤ 100 * N) := by
  have h := wOk_iff.1 hw
  have p1 := Int.mul_le_mul_of_nonneg_right h.1.2 hd.1
  have p2 := Int.mul_le_mul_of_nonneg_right h.1.1 hd.1
  have q1 := Int.mul_le_mul_of_nonneg_right h.2.2 hn.1
  have q2 := Int.mul_le_mul_of_nonneg_right h.2.1 hn.1
  omega
theorem MeetingPlace_same {w v : Wk} (hw : wOk w = true) (hv : wOk v = true) : Same3 (fun k => qcbz.f k w.1 w.2 v.1 v.2) (fun k => qccz.f k w.1 w.2 v.1 v.2) := by
  obtain ⟨b1, b2, b3⟩ := meet_bd hw hv
  obtain ⟨p1, p2⟩ := place_bd hw b1 b2
  cases ho : (meet w v).2.2 with
  | false =>
    refine Same3.no (qcbz.v ?_) (qccz.v (Ev.bind (spec_MeetingTime_eq hw hv) ?_))
    · simp only [impl_IsWalker_eq, S, hw, hv]
      refine Ev.bind (impl_meetingTime_eq hw hv) ?_
      simp only [ho, S]
      exact Ev.now _
    · simp only [ho, S]
      exact Ev.now _
  | true =>
    have hd := b3 ho
    obtain ⟨r, r1, r2, r3, r4⟩ := Same3.frac (n := w.1 * (meet w v).2.1 + w.2 * (meet w v).1) (d := (meet w v).2.1) (by unfold i64; omega) (by unfold i64; omega) (by omega) rfl rfl
    refine ⟨r, qcbz.v ?_, qccz.v (Ev.bind (spec_MeetingTime_eq hw hv) ?_), r3, r4⟩
    · simp only [impl_IsWalker_eq, S, hw, hv]
      refine Ev.bind (impl_meetingTime_eq hw hv) ?_
      unfold qfhz.f
      simp (disch := omega) only [ho, S]
      exact r1
    · simp (disch := omega) only [ho, S]
      exact r2
theorem impl_around_eq {a b : Int} (hb : 0 < b) (hA : -4611686018427387904 ≤ a ∧ a ≤ 4611686018427387904) (hB : b ≤ 4611686018427387904) : qhfz.f a b = some (a % b) := by
  have hq : a.tdiv b * b + a.tmod b = a := by rw [Int.mul_comm]; exact Int.mul_tdiv_add_tmod a b
  have hm0 := Int.emod_nonneg a (show b ≠ 0 by omega)
  have hm1 := Int.emod_lt_of_pos a hb
  have he : a / b * b + a % b = a := by rw [Int.mul_comm]; exact Int.mul_ediv_add_emod a b
  have hbd := tdiv_bd a b
  have hmb : (a.tmod b).natAbs < b.natAbs := by rw [Int.natAbs_tmod]; exact Nat.mod_lt _ (by omega)
  unfold qhfz.f qetz.f
  simp only [if_neg (show ¬ b = 0 by omega)]
  by_cases hn : a.tmod b < 0
  · have e2 : a % b = a.tmod b + b := by
      have : (a % b - (a.tmod b + b)) = (a.tdiv b - 1 - a / b) * b := by rw [Int.sub_mul, Int.sub_mul]; omega
      have h3 : (a.tdiv b - 1 - a / b) = 0 := by
        rcases Int.lt_trichotomy (a.tdiv b - 1 - a / b) 0 with h | h | h
        · have := Int.mul_le_mul_of_nonneg_right (show a.tdiv b - 1 - a / b ≤ -1 by omega) (show 0 ≤ b by omega)
          omega
        · exact h
        · have := Int.mul_le_mul_of_nonneg_right (show 1 ≤ a.tdiv b - 1 - a / b by omega) (show 0 ≤ b by omega)
          omega
      rw [h3, Int.zero_mul] at this
      omega
    have e3 : b * (a.tdiv b - 1) = a - a.tmod b - b := by rw [Int.mul_sub, Int.mul_comm]; omega
    simp (disch := omega) only [S, e3]
    exact congrArg some (by omega)
  · have e2 : a % b = a.tmod b := by
      have : (a % b - a.tmod b) = (a.tdiv b - a / b) * b := by rw [Int.sub_mul]; omega
      have h3 : (a.tdiv b - a / b) = 0 := by
        rcases Int.lt_trichotomy (a.tdiv b - a / b) 0 with h | h | h
        · have := Int.mul_le_mul_of_nonneg_right (show a.tdiv b - a / b ≤ -1 by omega) (show 0 ≤ b by omega)
          omega
        · exact h
        · have := Int.mul_le_mul_of_nonneg_right (show 1 ≤ a.tdiv b - a / b by omega) (show 0 ≤ b by omega)
          omega
      rw [h3, Int.zero_mul] at this
      omega
    have e3 : b * a.tdiv b = a - a.tmod b := by rw [Int.mul_comm]; omega
    simp (disch := omega) only [S, e3]
    exact congrArg some (by omega)
theorem spec_meMod_eq {a b : Int} (hb : 0 < b) (hB : b ≤ 4611686018427387904) : qhuz.f a b = some (a % b) := by
  have hmb : (a.tmod b).natAbs < b.natAbs := by rw [Int.natAbs_tmod]; exact Nat.mod_lt _ (by omega)
  unfold qhuz.f
  simp only [if_neg (show ¬ b = 0 by omega)]
  rw [w64 (by omega) (by omega), Int.tmod_eq_emod_of_nonneg (by omega)]
  have hq : a.tmod b = a - b * a.tdiv b := Int.tmod_def a b
  rw [hq, show a - b * a.tdiv b + b = a + b * (1 - a.tdiv b) by rw [Int.mul_sub]; omega, Int.add_mul_emod_self_left]
def ahead (n : Int) (w v : Wk) : Int × Int := if w.2 < v.2 then ((w.1 - v.1) % n, v.2 - w.2) else ((v.1 - w.1) % n, w.2 - v.2)
theorem ahead_bd {n : Int} (hn : 1 ≤ n ∧ n ≤ 1000) {w v : Wk} (hw : wOk w = true) (hv : wOk v = true) : (0 ≤ (ahead n w v).1 ∧ (ahead n w v).1 < n) ∧ (0 ≤ (ahead n w v).2 ∧ (ahead n w v).2 ≤ 200) ∧ ((ahead n w v).2 = 0 ↔ w.2 = v.2) := by
  have h1 := wOk_iff.1 hw
  have h2 := wOk_iff.1 hv
  unfold ahead
  split
  · have := Int.emod_nonneg (w.1 - v.1) (show n ≠ 0 by omega)
    have := Int.emod_lt_of_pos (w.1 - v.1) (show 0 < n by omega)
    simp only []
    omega
  · have := Int.emod_nonneg (v.1 - w.1) (show n ≠ 0 by omega)
    have := Int.emod_lt_of_pos (v.1 - w.1) (show 0 < n by omega)
    simp only []
    omega
theorem impl_ringGap_eq {n : Int} (hn : 1 ≤ n ∧ n ≤ 1000) {w v : Wk} (hw : wOk w = true) (hv : wOk v = true) : qfnz.f n w.1 w.2 v.1 v.2 = some (ahead n w v) := by
  have h1 := wOk_iff.1 hw
  have h2 := wOk_iff.1 hv
  unfold qfnz.f ahead
  by_cases h : w.2 < v.2
  · simp (disch := omega) only [S, if_pos h, impl_around_eq]
  · simp (disch := omega) only [S, if_neg h, impl_around_eq]
theorem spec_meAhead_eq {n : Int} (hn : 1 ≤ n ∧ n ≤ 1000) {w v : Wk} (hw : wOk w = true) (hv : wOk v = true) : qfrz.f n w.1 w.2 v.1 v.2 = some (ahead n w v) := by
  have h1 := wOk_iff.1 hw
  have h2 := wOk_iff.1 hv
  unfold qfrz.f ahead
  by_cases h : w.2 < v.2
  · simp (disch := omega) only [S, if_pos h, spec_meMod_eq]
  · simp (disch := omega) only [S, if_neg h, spec_meMod_eq]
theorem spec_meRing_eq {n : Int} (hn : 1 ≤ n ∧ n ≤ 1000) {w v : Wk} (hw : wOk w = true) (hv : wOk v = true) : qgzz.f n w.1 w.2 v.1 v.2 = some true := by
  unfold qgzz.f
  simp only [spec_l1In_eq, spec_meGood_eq, S, decide_eq_true hn, hw, hv]
theorem impl_isRing_eq {n : Int} (hn : 1 ≤ n ∧ n ≤ 1000) : qhaz.f n = some true := by
  unfold qhaz.f
  simp only [impl_within_eq, S, decide_eq_true hn]
theorem RingTime_same {n : Int} (hn : 1 ≤ n ∧ n ≤ 1000) {w v : Wk} (hw : wOk w = true) (hv : wOk v = true) : Same3 (fun k => qenz.f k n w.1 w.2 v.1 v.2) (fun k => qeoz.f k n w.1 w.2 v.1 v.2) := by
  obtain ⟨b1, b2, b3⟩ := ahead_bd hn hw hv
  have hI : ∀ {r}, Ev (fun k => if ((ahead n w v).2 == 0) = true then if (iGt (ahead n w v).1 0) = true then some (0, (0, false)) else if ((ahead n w v).2 == 0) = true then some (0, (1, true)) else (qgyz.f k (ahead n w v).1 (ahead n w v).2).bind fun t4 => some (t4.1, (t4.2, true)) else if ((ahead n w v).2 == 0) = true then some (0, (1, true)) else (qgyz.f k (ahead n w v).1 (ahead n w v).2).bind fun t4 => some (t4.1, (t4.2, true))) r → Ev (fun k => qenz.f k n w.1 w.2 v.1 v.2) r := by
    intro r h
    refine qenz.v ?_
    simp only [impl_isRing_eq hn, impl_IsWalker_eq, hw, hv, S, impl_ringGap_eq hn hw hv]
    exact h
  have hS : ∀ {r}, Ev (fun k => if ((ahead n w v).1 == 0) = true then some (0, (1, true)) else if ((ahead n w v).2 == 0) = true then some (0, (0, false)) else (qhqz.f k (ahead n w v).1 (ahead n w v).2).bind fun t2 => some (t2.1, (t2.2, true))) r → Ev (fun k => qeoz.f k n w.1 w.2 v.1 v.2) r := by
    intro r h
    refine qeoz.v ?_
    simp only [spec_meRing_eq hn hw hv, S, spec_meAhead_eq hn hw hv]
    exact h
  by_cases hs : (ahead n w v).2 = 0
  · by_cases hg : (ahead n w v).1 = 0
    · refine ⟨(0, (1, true)), hI ?_, hS ?_, i64_0, i64_1⟩
      · simp (disch := omega) only [S]
        exact Ev.now _
      · simp (disch := omega) only [S]
        exact Ev.now _
    · refine Same3.no (hI ?_) (hS ?_)
      · simp (disch := omega) only [S]
        exact Ev.now _
      · simp (disch := omega) only [S]
        exact Ev.now _
  · by_cases hg : (ahead n w v).1 = 0
    · refine ⟨(0, (1, true)), hI ?_, hS ?_, i64_0, i64_1⟩
      · simp (disch := omega) only [S]
        refine Ev.bind (impl_lowest_eq (by unfold i64; omega) (by unfold i64; omega) hs) ?_
        have e : low (ahead n w v).1 (ahead n w v).2 = (0, 1) := by
          rw [hg]
          unfold low low1
          rw [if_neg (by omega), Int.gcd_zero_right, Int.zero_tdiv]
          refine Prod.ext rfl ?_
          show Int.tdiv _ ((ahead n w v).2.natAbs : Nat) = 1
          rw [show (((ahead n w v).2.natAbs : Nat) : Int) = (ahead n w v).2 by omega]
          exact Int.tdiv_self hs
        rw [e]
        exact Ev.now _
      · simp (disch := omega) only [S]
        exact Ev.now _
    · obtain ⟨r, r1, r2, r3, r4⟩ := Same3.frac (n := (ahead n w v).1) (d := (ahead n w v).2) (by unfold i64; omega) (by unfold i64; omega) hs rfl rfl
      refine ⟨r, hI ?_, hS ?_, r3, r4⟩
      · simp (disch := omega) only [S]
        exact r1
      · simp (disch := omega) only [S]
        exact r2
theorem RingGap_same {n : Int} (hn : 1 ≤ n ∧ n ≤ 1000) {w v : Wk} (hw : wOk w = true) (hv : wOk v = true) : Same3 (fun k => qfyz.f k n w.1 w.2 v.1 v.2) (fun k => qfpz.f k n w.1 w.2 v.1 v.2) := by
  have h1 := wOk_iff.1 hw
  have h2 := wOk_iff.1 hv
  by_cases hs : w.2 = v.2
  · refine Same3.no (qfyz.v ?_) (qfpz.v ?_)
    · simp (disch := omega) only [impl_isRing_eq hn, impl_IsWalker_eq, hw, hv, S]
      exact Ev.now _
    · simp (disch := omega) only [spec_meRing_eq hn hw hv, S]
      exact Ev.now _
  · have e : (ahead n w v).2 = (((w.2 - v.2).natAbs : Nat) : Int) := by unfold ahead; split <;> (simp only []; omega)
    obtain ⟨r, r1, r2, r3, r4⟩ := Same3.frac (n := n) (d := (((w.2 - v.2).natAbs : Nat) : Int)) (by unfold i64; omega) (by unfold i64; omega) (by omega) rfl e
    refine ⟨r, qfyz.v ?_, qfpz.v ?_, r3, r4⟩
    · simp (disch := omega) only [impl_isRing_eq hn, impl_IsWalker_eq, hw, hv, S, impl_absOf_eq (show i64 (w.2 - v.2) by unfold i64; omega)]
      exact r1
    · simp (disch := omega) only [spec_meRing_eq hn hw hv, S, spec_meAhead_eq hn hw hv]
      exact r2
theorem TimeToMeet_same (a l r d : Int) : Same3 (fun k => qdiz.f k a l r d) (fun k => qdqz.f k a l r d) := by
  cases hc : cOk a l r d with
  | false =>
    refine Same3.no (qdiz.v ?_) (qdqz.v ?_)
    · simp only [impl_IsChase_eq, hc, S]; exact Ev.now _
    · simp only [spec_doGood_eq, hc, S]; exact Ev.now _
  | true =>
    have h := cOk_iff.1 hc
    obtain ⟨r, r1, r2, r3, r4⟩ := Same3.frac (n := a) (d := l + r) (by unfold i64; omega) (by unfold i64; omega) (by omega) rfl rfl
    refine ⟨r, qdiz.v ?_, qdqz.v ?_, r3, r4⟩
    · simp (disch := omega) only [impl_IsChase_eq, hc, S]; exact r1
    · simp (disch := omega) only [spec_doGood_eq, hc, S]; exact r2
theorem DogDistance_same (a l r d : Int) : Same3 (fun k => qdez.f k a l r d) (fun k => qdaz.f k a l r d) := by
  cases hc : cOk a l r d with
  | false =>
    refine Same3.no (qdez.v ?_) (qdaz.v ?_)
    · simp only [impl_IsChase_eq, hc, S]; exact Ev.now _
    · simp only [spec_doGood_eq, hc, S]; exact Ev.now _
  | true =>
    have h := cOk_iff.1 hc
    have hm := mulb (a := d) (b := a) (A := 20) (B := 1000) (by omega) (by omega) (by omega) (by omega)
    obtain ⟨q, r1, r2, r3, r4⟩ := Same3.frac (n := d * a) (d := l + r) (n' := a * d) (by unfold i64; omega) (by unfold i64; omega) (by omega) (Int.mul_comm _ _) rfl
    rw [Int.mul_comm] at hm
    have hm' := hm
    rw [Int.mul_comm a d] at hm'
    refine ⟨q, qdez.v ?_, qdaz.v ?_, r3, r4⟩
    · simp (disch := omega) only [impl_IsChase_eq, hc, S]; exact r1
    · simp (disch := omega) only [spec_doGood_eq, hc, S]; exact r2
theorem spec_reLong_eq {l : List Wk} (hok : listOk 5 lOk l = true) : ∃ n : Int, Ev (fun k => qgpz.f k l) n ∧ Ev (fun k => qhhz.f k l) n ∧ 0 ≤ n ∧ n ≤ 5000 := by
  obtain ⟨h1, h2⟩ := listOk_iff.1 hok
  have key : ∀ (d i : Nat) (s : Int), i + d = l.length → 0 ≤ s → s ≤ 1000 * i → ∃ n : Int, Ev (fun k => qgpz.l0 k s l (l.length : Int) (i : Int)) n ∧ Ev (fun k => qhhz.l0 k s l (l.length : Int) (i : Int)) n ∧ 0 ≤ n ∧ n ≤ 5000 := by
    intro d
    induction d with
    | zero =>
      intro i s hi h0 hs
      refine ⟨s, qgpz.v0 ?_, qhhz.v0 ?_, h0, by omega⟩ <;> simp (disch := omega) only [S] <;> exact Ev.now _
    | succ d ih =>
      intro i s hi h0 hs
      have hw := lOk_iff.1 (h2 _ (getD_mem (z := (0, 0)) (show i < l.length by omega)))
      obtain ⟨n, a, b, c⟩ := ih (i + 1) (s + (l.getD i (0, 0)).1) (by omega) (by omega) (by omega)
      refine ⟨n, qgpz.v0 ?_, qhhz.v0 ?_, c⟩ <;> simp (disch := omega) only [S] <;> assumption
  obtain ⟨n, a, b, c⟩ := key l.length 0 0 (by omega) (by omega) (by omega)
  refine ⟨n, qgpz.v ?_, qhhz.v ?_, c⟩ <;> simp only [S] <;> assumption
def bnd : Nat → Int
  | 0 => 1
  | i + 1 => 100 * bnd i
theorem bnd_le : ∀ i, i ≤ 6 → 1 ≤ bnd i ∧ bnd i ≤ 1000000000000 := by decide
theorem bnd_5 : ∀ i : Nat, i ≤ 5 → bnd i ≤ 10000000000 ∧ 10 * (i : Int) * bnd i ≤ 500000000000 := by decide
theorem low_pos {n d : Int} (hd : 0 < d) (hn : 0 ≤ n) : (0 ≤ (low n d).1 ∧ (low n d).1 ≤ n) ∧ (0 < (low n d).2 ∧ (low n d).2 ≤ d) ∧ (0 < n → 0 < (low n d).1) := by
  have h1 := low_bd n d
  have h2 := low_d (n := n) (d := d) (by omega)
  have h3 := low_sign (n := n) (d := d) (by omega)
  omega
theorem times_same {l : List Wk} (hok : listOk 5 lOk l = true) : ∃ t : Int × Int, Ev (fun k => qgfz.f k l) t ∧ Ev (fun k => qgdz.f k l) t ∧ (0 < t.1 ∧ t.1 ≤ 500000000000) ∧ (0 < t.2 ∧ t.2 ≤ 10000000000) := by
  obtain ⟨h1, h2⟩ := listOk_iff.1 hok
  have key : ∀ (d i : Nat) (n m : Int), i + d = l.length → (0 ≤ n ∧ n ≤ 10 * i * bnd i) → (0 < m ∧ m ≤ bnd i) → (0 < i → 0 < n) → ∃ t : Int × Int, Ev (fun k => qgfz.l0 k n m l (l.length : Int) (i : Int)) t ∧ Ev (fun k => qgdz.l0 k n m l (l.length : Int) (i : Int)) t ∧ (0 < t.1 ∧ t.1 ≤ 500000000000) ∧ (0 < t.2 ∧ t.2 ≤ 10000000000) := by
    intro d
    induction d with
    | zero =>
      intro i n m hi hn hm h0
      have hb := bnd_5 i (by omega)
      refine ⟨(n, m), qgfz.v0 ?_, qgdz.v0 ?_, ⟨h0 (by omega), by omega⟩, hm.1, by omega⟩ <;> simp (disch := omega) only [S] <;> exact Ev.now _
    | succ d ih =>
      intro i n m hi hn hm h0
      have hw := lOk_iff.1 (h2 _ (getD_mem (z := (0, 0)) (show i < l.length by omega)))
      obtain ⟨w, hwd⟩ : ∃ w, l.getD i (0, 0) = w := ⟨_, rfl⟩
      rw [hwd] at hw
      have hb := bnd_le i (by omega)
      have hb1 : 10 * (i : Int) * bnd i ≤ 50 * bnd i := Int.mul_le_mul_of_nonneg_right (by omega) (by omega)
      have hb2 : 10 * ((i + 1 : Nat) : Int) * bnd (i + 1) = 100 * (10 * i * bnd i) + 1000 * bnd i := by
        rw [show bnd (i + 1) = 100 * bnd i from rfl, show 10 * ((i + 1 : Nat) : Int) = 10 * i + 10 by omega, Int.add_mul, ← Int.mul_assoc, Int.mul_comm (10 * (i : Int)) 100, Int.mul_assoc, show 10 * (100 * bnd i) = 1000 * bnd i by omega]
      have m1 := mulb (a := n) (b := w.2) (A := 10 * i * bnd i) (B := 100) (by omega) (by omega) (by omega) (by omega)
      have m2 := mulb (a := w.1) (b := m) (A := 1000) (B := bnd i) (by omega) (by omega) (by omega) (by omega)
      have m3 := mulb (a := m) (b := w.2) (A := bnd i) (B := 100) (by omega) (by omega) (by omega) (by omega)
      have m4 : 0 < m * w.2 := Int.mul_pos (by omega) (by omega)
      have m5 : 0 < w.1 * m := Int.mul_pos (by omega) (by omega)
      obtain ⟨l1, l2, l3⟩ := low_pos (n := n * w.2 + w.1 * m) (d := m * w.2) m4 (by omega)
      obtain ⟨t, a, b, c⟩ := ih (i + 1) (low (n * w.2 + w.1 * m) (m * w.2)).1 (low (n * w.2 + w.1 * m) (m * w.2)).2 (by omega) (by omega) (by rw [show bnd (i + 1) = 100 * bnd i from rfl]; omega) (fun _ => l3 (by omega))
      refine ⟨t, qgfz.v0 ?_, qgdz.v0 ?_, c⟩
      · simp (disch := omega) only [S, hwd]
        exact Ev.bind (impl_lowest_eq (by unfold i64; omega) (by unfold i64; omega) (by omega)) a
      · simp (disch := omega) only [S, hwd]
        exact Ev.bind (spec_meLow_eq (by unfold i64; omega) (by unfold i64; omega) (by omega)) b
  obtain ⟨t, a, b, c⟩ := key l.length 0 0 1 (by omega) ⟨by omega, by simp⟩ ⟨by omega, by decide⟩ (fun h => absurd h (by omega))
  refine ⟨t, qgfz.v ?_, qgdz.v ?_, c⟩ <;> simp only [S] <;> assumption
theorem TimeOfLegs_same (l : List Wk) : Same3 (fun k => qdsz.f k l) (fun k => qdnz.f k l) := by
  cases hok : listOk 5 lOk l with
  | false =>
    refine Same3.no (qdsz.v (Ev.bind (impl_AreLegs_eq l) ?_)) (qdnz.v (Ev.bind (spec_reGood_eq l) ?_)) <;> simp only [hok, S] <;> exact Ev.now _
  | true =>
    obtain ⟨t, a, b, c1, c2⟩ := times_same hok
    refine ⟨(t.1, (t.2, true)), qdsz.v (Ev.bind (impl_AreLegs_eq l) ?_), qdnz.v (Ev.bind (spec_reGood_eq l) ?_), show i64 t.1 from by unfold i64; omega, show i64 t.2 from by unfold i64; omega⟩
    · simp only [hok, S]; exact Ev.bind a (Ev.now _)
    · simp only [hok, S]; exact Ev.bind b (Ev.now _)
theorem impl_fraction_eq {n d : Int} (hn : i64 n) (hd : i64 d) (h : d ≠ 0) : Ev (fun k => qffz.f k n d) ((low n d).1, ((low n d).2, true)) := by
  refine qffz.v ?_
  simp (disch := omega) only [S]
  exact Ev.bind (impl_lowest_eq hn hd h) (Ev.now _)
theorem MeanSpeed_same (l : List Wk) : Same3 (fun k => qejz.f k l) (fun k => qefz.f k l) := by
  cases hok : listOk 5 lOk l with
  | false =>
    refine Same3.no (qejz.v (Ev.bind (impl_AreLegs_eq l) ?_)) (qefz.v (Ev.bind (spec_reGood_eq l) ?_)) <;> simp only [hok, S] <;> exact Ev.now _
  | true =>
    obtain ⟨t, a, b, c1, c2⟩ := times_same hok
    obtain ⟨n, e, f, g1, g2⟩ := spec_reLong_eq hok
    have m1 := mulb (a := n) (b := t.2) (A := 5000) (B := 10000000000) (by omega) (by omega) (by omega) (by omega)
    have hl := low_i64 (n := n * t.2) (d := t.1) (by unfold i64; omega) (by unfold i64; omega)
    refine ⟨((low (n * t.2) t.1).1, ((low (n * t.2) t.1).2, true)), qejz.v (Ev.bind (impl_AreLegs_eq l) ?_), qefz.v (Ev.bind (spec_reGood_eq l) ?_), hl.1, hl.2⟩
    · simp only [hok, S]
      refine Ev.bind a (Ev.bind e ?_)
      simp (disch := omega) only [S]
      exact Ev.bind (impl_fraction_eq (by unfold i64; omega) (by unfold i64; omega) (by omega)) (Ev.now _)
    · simp only [hok, S]
      refine Ev.bind b (Ev.bind f ?_)
      simp (disch := omega) only [S]
      exact Ev.bind (spec_meLow_eq (by unfold i64; omega) (by unfold i64; omega) (by omega)) (Ev.now _)
theorem NeededSpeed_same (l : List Wk) (x y : Int) : Same3 (fun k => qcvz.f k l x y) (fun k => qciz.f k l x y) := by
  cases hok : listOk 5 lOk l with
  | false =>
    refine Same3.no (qcvz.v (Ev.bind (impl_AreLegs_eq l) ?_)) (qciz.v (Ev.bind (spec_reGood_eq l) ?_)) <;> simp only [hok, S] <;> exact Ev.now _
  | true =>
    have hx1 : qhjz.f x = some (decide (1 ≤ x ∧ x ≤ 1000)) := by unfold qhjz.f; simp only [impl_within_eq, S]
    have hy1 : qgjz.f y = some (decide (1 ≤ y ∧ y ≤ 100)) := by unfold qgjz.f; simp only [impl_within_eq, S]
    by_cases hx : 1 ≤ x ∧ x ≤ 1000
    · by_cases hy : 1 ≤ y ∧ y ≤ 100
      · obtain ⟨t, a, b, c1, c2⟩ := times_same hok
        obtain ⟨n, e, f, g1, g2⟩ := spec_reLong_eq hok
        have m1 := mulb (a := n + x) (b := t.2) (A := 6000) (B := 10000000000) (by omega) (by omega) (by omega) (by omega)
        have m2 := mulb (a := t.1) (b := y) (A := 500000000000) (B := 100) (by omega) (by omega) (by omega) (by omega)
        have m3 := mulb (a := x) (b := y) (A := 1000) (B := 100) (by omega) (by omega) (by omega) (by omega)
        have m4 := mulb (a := x * y) (b := t.2) (A := 100000) (B := 10000000000) (by omega) (by omega) (by omega) (by omega)
        by_cases hz : (n + x) * t.2 - t.1 * y ≤ 0
        · refine Same3.no (qcvz.v (Ev.bind (impl_AreLegs_eq l) ?_)) (qciz.v (Ev.bind (spec_reGood_eq l) ?_))
          · simp only [hok, S, hx1, hy1, decide_eq_true hx, decide_eq_true hy]
            refine Ev.bind a (Ev.bind e ?_)
            simp (disch := omega) only [S]
            exact Ev.now _
          · simp only [hok, S, spec_l1In_eq, decide_eq_true hx, decide_eq_true hy]
            refine Ev.bind b (Ev.bind f ?_)
            simp (disch := omega) only [S]
            exact Ev.now _
        · have hl := low_i64 (n := x * y * t.2) (d := (n + x) * t.2 - t.1 * y) (by unfold i64; omega) (by unfold i64; omega)
          refine ⟨((low (x * y * t.2) ((n + x) * t.2 - t.1 * y)).1, ((low (x * y * t.2) ((n + x) * t.2 - t.1 * y)).2, true)), qcvz.v (Ev.bind (impl_AreLegs_eq l) ?_), qciz.v (Ev.bind (spec_reGood_eq l) ?_), hl.1, hl.2⟩
          · simp only [hok, S, hx1, hy1, decide_eq_true hx, decide_eq_true hy]
            refine Ev.bind a (Ev.bind e ?_)
            simp (disch := omega) only [S]
            exact Ev.bind (impl_fraction_eq (by unfold i64; omega) (by unfold i64; omega) (by omega)) (Ev.now _)
          · simp only [hok, S, spec_l1In_eq, decide_eq_true hx, decide_eq_true hy]
            refine Ev.bind b (Ev.bind f ?_)
            simp (disch := omega) only [S]
            exact Ev.bind (spec_meLow_eq (by unfold i64; omega) (by unfold i64; omega) (by omega)) (Ev.now _)
      · refine Same3.no (qcvz.v (Ev.bind (impl_AreLegs_eq l) ?_)) (qciz.v (Ev.bind (spec_reGood_eq l) ?_))
        · simp only [hok, S, hx1, hy1, decide_eq_true hx, decide_eq_false hy]; exact Ev.now _
        · simp only [hok, S, spec_l1In_eq, decide_eq_true hx, decide_eq_false hy]; exact Ev.now _
    · refine Same3.no (qcvz.v (Ev.bind (impl_AreLegs_eq l) ?_)) (qciz.v (Ev.bind (spec_reGood_eq l) ?_))
      · simp only [hok, S, hx1, decide_eq_false hx]; exact Ev.now _
      · simp only [hok, S, spec_l1In_eq, decide_eq_false hx]; exact Ev.now _
def ap (a l r d : Int) : Nat → Int × Int
  | 0 => (a, 1)
  | i + 1 => if i % 2 = 0 then ((ap a l r d i).1 * (d - l), (ap a l r d i).2 * (d + r)) else ((ap a l r d i).1 * (d - r), (ap a l r d i).2 * (d + l))
theorem ap_bd {a l r d : Int} (hc : cOk a l r d = true) : ∀ i : Nat, i ≤ 6 → (0 ≤ (ap a l r d i).1 ∧ (ap a l r d i).1 ≤ 1000 * bnd i) ∧ (0 < (ap a l r d i).2 ∧ (ap a l r d i).2 ≤ bnd i)
  | 0, _ => by
    have h := cOk_iff.1 hc
    exact ⟨⟨by show 0 ≤ a; omega, by show a ≤ 1000 * 1; omega⟩, by show (0 : Int) < 1; decide, by show (1 : Int) ≤ 1; decide⟩
  | i + 1, hi => by
    have h := cOk_iff.1 hc
    obtain ⟨h1, h2⟩ := ap_bd hc i (by omega)
    have hb := bnd_le i (by omega)
    have e : bnd (i + 1) = 100 * bnd i := rfl
    unfold ap
    split
    · have m1 := mulb (a := (ap a l r d i).1) (b := d - l) (A := 1000 * bnd i) (B := 100) (by omega) (by omega) (by omega) (by omega)
      have m2 := mulb (a := (ap a l r d i).2) (b := d + r) (A := bnd i) (B := 100) (by omega) (by omega) (by omega) (by omega)
      have m3 := Int.mul_pos (a := (ap a l r d i).2) (b := d + r) (by omega) (by omega)
      simp only []
      omega
    · have m1 := mulb (a := (ap a l r d i).1) (b := d - r) (A := 1000 * bnd i) (B := 100) (by omega) (by omega) (by omega) (by omega)
      have m2 := mulb (a := (ap a l r d i).2) (b := d + l) (A := bnd i) (B := 100) (by omega) (by omega) (by omega) (by omega)
      have m3 := Int.mul_pos (a := (ap a l r d i).2) (b := d + l) (by omega) (by omega)
      simp only []
      omega
theorem impl_apartAt_eq {a l r d : Int} (hc : cOk a l r d = true) (t : Nat) (ht : t ≤ 6) : Ev (fun k => qfqz.f k a l r d (t : Int)) (ap a l r d t) := by
  have h := cOk_iff.1 hc
  have key : ∀ (e i : Nat), i + e = t → Ev (fun k => qfqz.l0 k (ap a l r d i).1 (ap a l r d i).2 (t : Int) (i : Int) a l r d) (ap a l r d t) := by
    intro e
    induction e with
    | zero =>
      intro i hi
      rw [show t = i by omega]
      refine qfqz.v0 ?_
      simp (disch := omega) only [S]
      exact Ev.now _
    | succ e ih =>
      intro i hi
      have h1 := ih (i + 1) (by omega)
      obtain ⟨b1, b2⟩ := ap_bd hc (i + 1) (by omega)
      have hb := bnd_le (i + 1) (by omega)
      refine qfqz.v0 ?_
      have e1 : Int.tmod (i : Int) 2 = ((i % 2 : Nat) : Int) := by rw [Int.tmod_eq_emod_of_nonneg (by omega)]; omega
      by_cases h0 : i % 2 = 0
      · have e2 : ap a l r d (i + 1) = ((ap a l r d i).1 * (d - l), (ap a l r d i).2 * (d + r)) := by rw [ap, if_pos h0]
        rw [e2] at h1 b1 b2
        simp only [] at h1 b1 b2
        simp (disch := omega) only [S, e1]
        exact h1
      · have e2 : ap a l r d (i + 1) = ((ap a l r d i).1 * (d - r), (ap a l r d i).2 * (d + l)) := by rw [ap, if_neg h0]
        rw [e2] at h1 b1 b2
        simp only [] at h1 b1 b2
        simp (disch := omega) only [S, e1]
        exact h1
  exact qfqz.v (key t 0 (by omega))
abbrev D5 := Int × (Int × (Int × (Int × Int)))
theorem spec_doRun_eq {a l r d : Int} (hc : cOk a l r d = true) (t : Nat) (ht : t ≤ 6) : ∃ res : List D5, Ev (fun k => qhwz.f k a l r d (t : Int)) res ∧ t < res.length ∧ (res.getD t (0, (0, (0, (0, 0))))).2.2.1 = (ap a l r d t).1 ∧ (res.getD t (0, (0, (0, (0, 0))))).2.2.2.2 = (ap a l r d t).2 := by
  have h := cOk_iff.1 hc
  have key : ∀ (e i : Nat) (x y z : Int) (out : List D5), i + e = t → out.length = i + 1 → out.getD i (0, (0, (0, (0, 0)))) = (x, (y, ((ap a l r d i).1, (z, (ap a l r d i).2)))) →
      ∃ res : List D5, Ev (fun k => qhwz.l0 k (t : Int) ((i + 1 : Nat) : Int) a l r d x y (ap a l r d i).1 z (ap a l r d i).2 out) res ∧ t < res.length ∧ (res.getD t (0, (0, (0, (0, 0))))).2.2.1 = (ap a l r d t).1 ∧ (res.getD t (0, (0, (0, (0, 0))))).2.2.2.2 = (ap a l r d t).2 := by
    intro e
    induction e with
    | zero =>
      intro i x y z out hi hl ho
      have : t = i := by omega
      subst this
      refine ⟨out, qhwz.v0 ?_, by omega, by rw [ho], by rw [ho]⟩
      simp (disch := omega) only [S]
      exact Ev.now _
    | succ e ih =>
      intro i x y z out hi hl ho
      obtain ⟨b1, b2⟩ := ap_bd hc (i + 1) (by omega)
      have hb := bnd_le (i + 1) (by omega)
      have e1 : Int.tmod ((i + 1 : Nat) : Int) 2 = (((i + 1) % 2 : Nat) : Int) := by rw [Int.tmod_eq_emod_of_nonneg (by omega)]; omega
      have step : ∀ x' y' z' : Int, ∃ res : List D5, Ev (fun k => qhwz.l0 k (t : Int) ((i + 1 + 1 : Nat) : Int) a l r d x' y' (ap a l r d (i + 1)).1 z' (ap a l r d (i + 1)).2 (out ++ [(x', (y', ((ap a l r d (i + 1)).1, (z', (ap a l r d (i + 1)).2))))])) res ∧ t < res.length ∧ (res.getD t (0, (0, (0, (0, 0))))).2.2.1 = (ap a l r d t).1 ∧ (res.getD t (0, (0, (0, (0, 0))))).2.2.2.2 = (ap a l r d t).2 := fun x' y' z' =>
        ih (i + 1) x' y' z' _ (by omega) (by simp [hl]) (by
          rw [List.getD_eq_getElem?_getD, List.getElem?_append_right (by omega), hl]
          simp)
      by_cases h0 : i % 2 = 0
      · have e2 : ap a l r d (i + 1) = ((ap a l r d i).1 * (d - l), (ap a l r d i).2 * (d + r)) := by rw [ap, if_pos h0]
        rw [e2] at b1 b2
        simp only [] at b1 b2
        have hm : qgcz.f 0 d = some d := by unfold qgcz.f; simp (disch := omega) only [S]
        have e3 : d + r - l - r = d - l := by omega
        obtain ⟨res, s1, s2⟩ := step (W (W (x * W (d + r)) + (ap a l r d i).1)) (W (W (y * W (d + r)) + W (d * (ap a l r d i).1))) (W (W (z * W (d + r)) + W (d * (ap a l r d i).1)))
        refine ⟨res, qhwz.v0 ?_, s2⟩
        rw [e2] at s1
        simp only [] at s1
        have w1 : W (d + r) = d + r := w64 (by omega) (by omega)
        have w2 : W (W (W (d + r) - l) - r) = d - l := by rw [w1, w64 (x := d + r - l) (by omega) (by omega), e3, w64 (by omega) (by omega)]
        have w3 : W ((ap a l r d i).1 * (d - l)) = (ap a l r d i).1 * (d - l) := w64 (by omega) (by omega)
        have w4 : W ((ap a l r d i).2 * (d + r)) = (ap a l r d i).2 * (d + r) := w64 (by omega) (by omega)
        have w5 : W (((i + 1 : Nat) : Int) + 1) = ((i + 1 + 1 : Nat) : Int) := by rw [w64 (by omega) (by omega)]; omega
        have c1 : iLe ((i + 1 : Nat) : Int) (t : Int) = true := decide_eq_true (by omega)
        have c2 : (Int.tmod ((i + 1 : Nat) : Int) 2 == 0) = false := by rw [e1]; exact beq_eq_false_iff_ne.2 (by omega)
        have c3 : lnN out + 1 ≤ 3518437208883 := by show out.length + 1 ≤ _; omega
        simp only [c1, c2, hm, Option.bind_some, w2, w3, w5, if_true, Bool.false_eq_true, if_false]
        unfold gd
        simp only [if_pos c3]
        rw [w1] at s1 ⊢
        rw [w4]
        exact s1
      · have e2 : ap a l r d (i + 1) = ((ap a l r d i).1 * (d - r), (ap a l r d i).2 * (d + l)) := by rw [ap, if_neg h0]
        rw [e2] at b1 b2
        simp only [] at b1 b2
        have hm : qgcz.f 0 (W (0 - d)) = some 0 := by
          unfold qgcz.f
          rw [w64 (by omega) (by omega)]
          by_cases hd : (0 : Int) > 0 - d
          · simp (disch := omega) only [S]
          · omega
        have e3 : d + l - l - r = d - r := by omega
        obtain ⟨res, s1, s2⟩ := step (W (W (x * W (d + l)) + (ap a l r d i).1)) (W (W (y * W (d + l)) + W (W (0 - d) * (ap a l r d i).1))) (W (W (z * W (d + l)) + W (0 * (ap a l r d i).1)))
        refine ⟨res, qhwz.v0 ?_, s2⟩
        rw [e2] at s1
        simp only [] at s1
        have w1 : W (d + l) = d + l := w64 (by omega) (by omega)
        have w2 : W (W (W (d + l) - l) - r) = d - r := by rw [w1, w64 (x := d + l - l) (by omega) (by omega), e3, w64 (by omega) (by omega)]
        have w3 : W ((ap a l r d i).1 * (d - r)) = (ap a l r d i).1 * (d - r) := w64 (by omega) (by omega)
        have w4 : W ((ap a l r d i).2 * (d + l)) = (ap a l r d i).2 * (d + l) := w64 (by omega) (by omega)
        have w5 : W (((i + 1 : Nat) : Int) + 1) = ((i + 1 + 1 : Nat) : Int) := by rw [w64 (by omega) (by omega)]; omega
        have c1 : iLe ((i + 1 : Nat) : Int) (t : Int) = true := decide_eq_true (by omega)
        have c2 : (Int.tmod ((i + 1 : Nat) : Int) 2 == 0) = true := by rw [e1]; exact beq_iff_eq.2 (by omega)
        have c3 : lnN out + 1 ≤ 3518437208883 := by show out.length + 1 ≤ _; omega
        simp only [c1, c2, hm, Option.bind_some, w2, w3, w5, if_true]
        unfold gd
        simp only [if_pos c3]
        rw [w1] at s1 ⊢
        rw [w4]
        exact s1
  obtain ⟨res, s1, s2⟩ := key t 0 0 0 0 [(0, (0, (a, (0, 1))))] (by omega) rfl rfl
  exact ⟨res, qhwz.v s1, s2⟩
theorem ApartAfterTurn_same (a l r d t : Int) : Same3 (fun k => qbnz.f k a l r d t) (fun k => qbrz.f k a l r d t) := by
  have hT : qglz.f t = some (decide (1 ≤ t ∧ t ≤ 6)) := by unfold qglz.f; simp only [impl_within_eq, S]
  cases hc : cOk a l r d with
  | false =>
    refine Same3.no (qbnz.v ?_) (qbrz.v ?_)
    · simp only [impl_IsChase_eq, hc, S]; exact Ev.now _
    · simp only [spec_doGood_eq, hc, S]; exact Ev.now _
  | true =>
    by_cases ht : 1 ≤ t ∧ t ≤ 6
    · obtain ⟨n, rfl⟩ : ∃ n : Nat, t = (n : Int) := ⟨t.toNat, by omega⟩
      obtain ⟨b1, b2⟩ := ap_bd hc n (by omega)
      have hb := bnd_le n (by omega)
      obtain ⟨res, s1, s2, s3, s4⟩ := spec_doRun_eq hc n (by omega)
      obtain ⟨q, r1, r2, r3, r4⟩ := Same3.frac (n := (ap a l r d n).1) (d := (ap a l r d n).2) (by unfold i64; omega) (by unfold i64; omega) (by omega) rfl rfl
      refine ⟨q, qbnz.v ?_, qbrz.v ?_, r3, r4⟩
      · simp only [impl_IsChase_eq, hc, S, hT, decide_eq_true ht]
        exact Ev.bind (impl_apartAt_eq hc n (by omega)) r1
      · simp only [spec_doGood_eq, hc, S, spec_l1In_eq, decide_eq_true ht]
        refine Ev.bind s1 ?_
        simp (disch := omega) only [S, s3, s4]
        exact r2
    · refine Same3.no (qbnz.v ?_) (qbrz.v ?_)
      · simp only [impl_IsChase_eq, hc, S, hT, decide_eq_false ht]; exact Ev.now _
      · simp only [spec_doGood_eq, hc, S, spec_l1In_eq, decide_eq_false ht]; exact Ev.now _
theorem spec_gcd_loop {x0 x4 x5 : Int} {l : List Wk} {r : R3} (b : Nat) : ∀ a : Nat, Ev (fun k => qdhz.l0 k x0 ((Nat.gcd a b : Nat) : Int) l x4 (W (x5 + 1))) r → Ev (fun k => qdhz.l1 k x0 (a : Int) (b : Int) l x4 x5) r := by
  induction b using Nat.strongRecOn with
  | _ b ih =>
    intro a h
    refine qdhz.v1 ?_
    rcases Nat.eq_zero_or_pos b with rfl | hb
    · rw [Nat.gcd_zero_right] at h
      have c1 : iGt ((0 : Nat) : Int) 0 = false := rfl
      simp only [c1, Bool.false_eq_true, if_false]
      exact h
    · have e : Nat.gcd a b = Nat.gcd b (a % b) := by rw [Nat.gcd_comm a b, Nat.gcd_rec, Nat.gcd_comm]
      rw [e] at h
      have := ih (a % b) (Nat.mod_lt _ hb) b h
      rw [Int.ofNat_tmod] at this
      have c1 : iGt (b : Int) 0 = true := decide_eq_true (by omega)
      simp only [c1, if_true, if_neg (show ¬ (b : Int) = 0 by omega)]
      exact this
theorem AllAtStart_same {l : List Wk} {n : Int} (hl : listOk 8 wOk l = true) (hn : 1 ≤ n ∧ n ≤ 1000) : Same3 (fun k => qduz.f k n l) (fun k => qdhz.f k n l) := by
  obtain ⟨h1, h2⟩ := listOk_iff.1 hl
  have key : ∀ (e i : Nat) (g : Nat), i + e = l.length → g ≤ 100 → Same3 (fun k => qduz.l0 k n (g : Int) l (l.length : Int) (i : Int)) (fun k => qdhz.l0 k n (g : Int) l (l.length : Int) (i : Int)) := by
    intro e
    induction e with
    | zero =>
      intro i g hi hg
      by_cases h0 : g = 0
      · subst h0
        refine Same3.no (qduz.v0 ?_) (qdhz.v0 ?_) <;> simp (disch := omega) only [S] <;> exact Ev.now _
      · obtain ⟨r, r1, r2, r3⟩ := Same3.frac (n := n) (d := (g : Int)) (by unfold i64; omega) (by unfold i64; omega) (by omega) rfl rfl
        refine ⟨r, qduz.v0 ?_, qdhz.v0 ?_, r3⟩
        · simp (disch := omega) only [S]; exact r1
        · simp (disch := omega) only [S]; exact r2
    | succ e ih =>
      intro i g hi hg
      have hw := wOk_iff.1 (h2 _ (getD_mem (z := (0, 0)) (show i < l.length by omega)))
      have hs : i64 (l.getD i (0, 0)).2 := by unfold i64; omega
      have hb : Nat.gcd g (l.getD i (0, 0)).2.natAbs ≤ 100 := by
        rcases Nat.eq_zero_or_pos g with rfl | h0
        · rw [Nat.gcd_zero_left]; omega
        · exact Nat.le_trans (Nat.gcd_le_left _ h0) hg
      obtain ⟨r, r1, r2, r3⟩ := ih (i + 1) (Nat.gcd g (l.getD i (0, 0)).2.natAbs) (by omega) hb
      refine ⟨r, qduz.v0 ?_, qdhz.v0 ?_, r3⟩
      · simp (disch := omega) only [S, impl_absOf_eq hs]
        exact Ev.bind (impl_divisorOf_eq _ _) r1
      · simp (disch := omega) only [S, spec_l1Abs_eq hs]
        refine spec_gcd_loop _ _ ?_
        simp (disch := omega) only [S]
        exact r2
  obtain ⟨r, r1, r2, r3⟩ := key l.length 0 0 (by omega) (by omega)
  refine ⟨r, qduz.v ?_, qdhz.v ?_, r3⟩
  · simp only [impl_isRing_eq hn, S]
    refine Ev.bind (impl_AreWalkers_eq l) ?_
    simp only [hl, S]
    exact r1
  · simp only [spec_l1In_eq, decide_eq_true hn, S]
    refine Ev.bind (spec_meAll_eq l) ?_
    simp only [hl, S]
    exact r2
def inn (a b x : Int) : Nat → Int → Int
  | 0, _ => 0
  | e + 1, j => (if j ≤ x + a ∧ x ≤ j + b then 1 else 0) + inn a b x e (j + 1)
def tot (m : Nat) (a b : Int) : Nat → Int → Int
  | 0, _ => 0
  | e + 1, x => inn a b x m 0 + tot m a b e (x + 1)
theorem inn_bd (a b x : Int) : ∀ (e : Nat) (j : Int), 0 ≤ inn a b x e j ∧ inn a b x e j ≤ e
  | 0, _ => ⟨Int.le_refl _, Int.le_refl _⟩
  | e + 1, j => by
    have := inn_bd a b x e (j + 1)
    unfold inn
    split <;> omega
theorem tot_bd (m : Nat) (a b : Int) : ∀ (e : Nat) (x : Int), 0 ≤ tot m a b e x ∧ tot m a b e x ≤ e * m
  | 0, _ => ⟨Int.le_refl _, by simp [tot]⟩
  | e + 1, x => by
    have h1 := tot_bd m a b e (x + 1)
    have h2 := inn_bd a b x m 0
    unfold tot
    rw [show ((e + 1 : Nat) : Int) = e + 1 by omega, Int.add_mul]
    omega
theorem count_same {m : Nat} {a b : Int} (hm : m ≤ 200) (ha : 0 ≤ a ∧ a ≤ 200) (hb : 0 ≤ b ∧ b ≤ 200) : Ev (fun k => qbsz.f k (m : Int) a b) (tot m a b m 0) ∧ Ev (fun k => qdfz.f k (m : Int) a b) (tot m a b m 0) := by
  have inner : ∀ (x : Nat) (r : Int), x < m → ∀ (e j : Nat) (c : Int), j + e = m → (0 ≤ c ∧ c ≤ 200 * x + j) →
      (Ev (fun k => qbsz.l0 k (m : Int) a b (c + inn a b x e j) (m : Int) ((x + 1 : Nat) : Int)) r → Ev (fun k => qbsz.l1 k (m : Int) a b c (x : Int) (m : Int) (x : Int) (m : Int) (j : Int)) r) ∧
      (Ev (fun k => qdfz.l0 k (m : Int) a b (c + inn a b x e j) ((x + 1 : Nat) : Int)) r → Ev (fun k => qdfz.l1 k (m : Int) a b c (x : Int) (j : Int)) r) := by
    intro x r hx e
    induction e with
    | zero =>
      intro j c hj hc
      simp only [inn, Int.add_zero]
      refine ⟨fun h => qbsz.v1 ?_, fun h => qdfz.v1 ?_⟩ <;> simp (disch := omega) only [S] <;> exact h
    | succ e ih =>
      intro j c hj hc
      unfold inn
      by_cases h1 : (j : Int) ≤ x + a
      · by_cases h2 : (x : Int) ≤ j + b
        · obtain ⟨i1, i2⟩ := ih (j + 1) (c + 1) (by omega) (by omega)
          rw [if_pos ⟨h1, h2⟩]
          refine ⟨fun h => qbsz.v1 ?_, fun h => qdfz.v1 ?_⟩
          · have h' := i1 (by rw [show c + 1 + inn a b x e ((j + 1 : Nat) : Int) = c + (1 + inn a b x e ((j : Int) + 1)) by rw [show ((j + 1 : Nat) : Int) = (j : Int) + 1 by omega]; omega]; exact h)
            simp (disch := omega) only [S]
            exact h'
          · have h' := i2 (by rw [show c + 1 + inn a b x e ((j + 1 : Nat) : Int) = c + (1 + inn a b x e ((j : Int) + 1)) by rw [show ((j + 1 : Nat) : Int) = (j : Int) + 1 by omega]; omega]; exact h)
            simp (disch := omega) only [S]
            exact h'
        · obtain ⟨i1, i2⟩ := ih (j + 1) c (by omega) (by omega)
          rw [if_neg (fun h => h2 h.2), Int.zero_add]
          refine ⟨fun h => qbsz.v1 ?_, fun h => qdfz.v1 ?_⟩
          · have h' := i1 h
            simp (disch := omega) only [S]
            exact h'
          · have h' := i2 h
            simp (disch := omega) only [S]
            exact h'
      · obtain ⟨i1, i2⟩ := ih (j + 1) c (by omega) (by omega)
        rw [if_neg (fun h => h1 h.1), Int.zero_add]
        refine ⟨fun h => qbsz.v1 ?_, fun h => qdfz.v1 ?_⟩
        · have h' := i1 h
          simp (disch := omega) only [S]
          exact h'
        · have h' := i2 h
          simp (disch := omega) only [S]
          exact h'
  have outer : ∀ (e x : Nat) (c : Int), x + e = m → (0 ≤ c ∧ c ≤ 200 * x) → Ev (fun k => qbsz.l0 k (m : Int) a b c (m : Int) (x : Int)) (c + tot m a b e x) ∧ Ev (fun k => qdfz.l0 k (m : Int) a b c (x : Int)) (c + tot m a b e x) := by
    intro e
    induction e with
    | zero =>
      intro x c hx hc
      simp only [tot, Int.add_zero]
      refine ⟨qbsz.v0 ?_, qdfz.v0 ?_⟩ <;> simp (disch := omega) only [S] <;> exact Ev.now _
    | succ e ih =>
      intro x c hx hc
      have hb := inn_bd a b x m 0
      obtain ⟨o1, o2⟩ := ih (x + 1) (c + inn a b x m 0) (by omega) (by omega)
      obtain ⟨i1, i2⟩ := inner x (c + tot m a b (e + 1) x) (by omega) m 0 c (by omega) (by omega)
      have e1 : c + inn a b x m 0 + tot m a b e ((x + 1 : Nat) : Int) = c + tot m a b (e + 1) x := by
        rw [tot, show ((x + 1 : Nat) : Int) = (x : Int) + 1 by omega]; omega
      rw [e1] at o1 o2
      refine ⟨qbsz.v0 ?_, qdfz.v0 ?_⟩
      · simp (disch := omega) only [S]; exact i1 o1
      · simp (disch := omega) only [S]; exact i2 o2
  obtain ⟨o1, o2⟩ := outer m 0 0 (by omega) (by omega)
  rw [Int.zero_add] at o1 o2
  exact ⟨qbsz.v o1, qdfz.v o2⟩
theorem ChanceTogether_same (m a b : Int) : Same3 (fun k => qbpz.f k m a b) (fun k => qbmz.f k m a b) := by
  have hI : qfcz.f m a b = some (decide (1 ≤ m ∧ m ≤ 200) && (decide (0 ≤ a ∧ a ≤ 200) && decide (0 ≤ b ∧ b ≤ 200))) := by
    unfold qfcz.f qecz.f
    simp only [impl_within_eq, S]
    cases decide (1 ≤ m ∧ m ≤ 200) <;> cases decide (0 ≤ a ∧ a ≤ 200) <;> rfl
  have hS : qekz.f m a b = some (decide (1 ≤ m ∧ m ≤ 200) && (decide (0 ≤ a ∧ a ≤ 200) && decide (0 ≤ b ∧ b ≤ 200))) := by
    unfold qekz.f
    simp only [spec_l1In_eq, S]
    cases decide (1 ≤ m ∧ m ≤ 200) <;> cases decide (0 ≤ a ∧ a ≤ 200) <;> rfl
  cases hc : (decide (1 ≤ m ∧ m ≤ 200) && (decide (0 ≤ a ∧ a ≤ 200) && decide (0 ≤ b ∧ b ≤ 200))) with
  | false =>
    refine Same3.no (qbpz.v ?_) (qbmz.v ?_)
    · simp only [hI, hc, S]; exact Ev.now _
    · simp only [hS, hc, S]; exact Ev.now _
  | true =>
    simp only [Bool.and_eq_true, decide_eq_true_eq] at hc
    obtain ⟨h1, h2, h3⟩ := hc
    have hc : (decide (1 ≤ m ∧ m ≤ 200) && (decide (0 ≤ a ∧ a ≤ 200) && decide (0 ≤ b ∧ b ≤ 200))) = true := by simp [h1, h2, h3]
    obtain ⟨n, rfl⟩ : ∃ n : Nat, m = (n : Int) := ⟨m.toNat, by omega⟩
    obtain ⟨c1, c2⟩ := count_same (m := n) (a := a) (b := b) (by omega) h2 h3
    have hb := tot_bd n a b n 0
    have hm := mulb (a := (n : Int)) (b := (n : Int)) (A := 200) (B := 200) (by omega) (by omega) (by omega) (by omega)
    have hp := Int.mul_pos (a := (n : Int)) (b := (n : Int)) (by omega) (by omega)
    have hl := low_i64 (n := tot n a b n 0) (d := (n : Int) * n) (by unfold i64; omega) (by unfold i64; omega)
    refine ⟨((low (tot n a b n 0) ((n : Int) * n)).1, ((low (tot n a b n 0) ((n : Int) * n)).2, true)), qbpz.v ?_, qbmz.v ?_, hl.1, hl.2⟩
    · simp only [hI, hc, S]
      refine Ev.bind c1 ?_
      simp (disch := omega) only [S]
      exact Ev.bind (impl_fraction_eq (by unfold i64; omega) (by unfold i64; omega) (by omega)) (Ev.now _)
    · simp only [hS, hc, S]
      refine Ev.bind c2 ?_
      simp (disch := omega) only [S]
      exact Ev.bind (spec_meLow_eq (by unfold i64; omega) (by unfold i64; omega) (by omega)) (Ev.now _)
def rows2 (L : List (List Int)) : Prop := ∀ r ∈ L, r.length = 2 ∧ ∀ n ∈ r, i64 n
theorem rows2_snoc {L : List (List Int)} (h : rows2 L) {a b : Int} (ha : i64 a) (hb : i64 b) : rows2 (L ++ [[a, b]]) := by
  intro r hr
  rcases List.mem_append.1 hr with hr | hr
  · exact h r hr
  · simp only [List.mem_singleton] at hr
    subst hr
    refine ⟨rfl, fun n hn => ?_⟩
    simp only [List.mem_cons, List.not_mem_nil, or_false] at hn
    rcases hn with rfl | rfl
    · exact ha
    · exact hb
theorem spec_min_eq (a b : Int) : qfvz.f a b = some (min a b) := by
  unfold qfvz.f
  by_cases h : a < b
  · simp (disch := omega) only [S]; exact congrArg some (by omega)
  · simp (disch := omega) only [S]; exact congrArg some (by omega)
theorem spec_max_eq (a b : Int) : qgcz.f a b = some (max a b) := by
  unfold qgcz.f
  by_cases h : b < a
  · simp (disch := omega) only [S]; exact congrArg some (by omega)
  · simp (disch := omega) only [S]; exact congrArg some (by omega)
theorem Pairs_same {l : List Wk} (hok : listOk 6 vOk l = true) : ∃ rows : List (List Int), Ev (fun k => qcgz.f k l) (rows, true) ∧ Ev (fun k => qbzz.f k l) (rows, true) ∧ rows2 rows ∧ rows.length ≤ 36 := by
  obtain ⟨h1, h2⟩ := listOk_iff.1 hok
  have inner : ∀ (i : Nat), i < l.length → (∀ acc, rows2 acc → acc.length ≤ 6 * (i + 1) → ∃ rows : List (List Int), Ev (fun k => qcgz.l0 k l l (l.length : Int) ((i + 1 : Nat) : Int) acc) (rows, true) ∧ Ev (fun k => qbzz.l0 k l l (l.length : Int) ((i + 1 : Nat) : Int) acc) (rows, true) ∧ rows2 rows ∧ rows.length ≤ 36) →
      ∀ (e j : Nat) acc, j + e = l.length → rows2 acc → acc.length ≤ 6 * i + j → ∃ rows : List (List Int), Ev (fun k => qcgz.l1 k l (i : Int) (j : Int) l (l.length : Int) (i : Int) acc (l.getD i (0, 0)).1 (l.getD i (0, 0)).2) (rows, true) ∧ Ev (fun k => qbzz.l1 k l (i : Int) (j : Int) l (l.length : Int) (i : Int) acc (l.getD i (0, 0)).1 (l.getD i (0, 0)).2) (rows, true) ∧ rows2 rows ∧ rows.length ≤ 36 := by
    intro i hi hout e
    induction e with
    | zero =>
      intro j acc hj ha hl
      obtain ⟨rows, a, b, c⟩ := hout acc ha (by omega)
      refine ⟨rows, qcgz.v1 ?_, qbzz.v1 ?_, c⟩ <;> simp (disch := omega) only [S] <;> assumption
    | succ e ih =>
      intro j acc hj ha hl
      have hv := vOk_iff.1 (h2 _ (getD_mem (z := (0, 0)) hi))
      have hw := vOk_iff.1 (h2 _ (getD_mem (z := (0, 0)) (show j < l.length by omega)))
      by_cases c1 : (l.getD i (0, 0)).1 ≤ (l.getD j (0, 0)).1 + (l.getD j (0, 0)).2
      · by_cases c2 : (l.getD j (0, 0)).1 ≤ (l.getD i (0, 0)).1 + (l.getD i (0, 0)).2
        · obtain ⟨rows, a, b, c⟩ := ih (j + 1) (acc ++ [[(i : Int), (j : Int)]]) (by omega) (rows2_snoc ha (by unfold i64; omega) (by unfold i64; omega)) (by simp; omega)
          refine ⟨rows, qcgz.v1 ?_, qbzz.v1 ?_, c⟩
          · simp (disch := omega) only [S]; exact a
          · simp (disch := omega) only [S, spec_min_eq, spec_max_eq]; exact b
        · obtain ⟨rows, a, b, c⟩ := ih (j + 1) acc (by omega) ha (by omega)
          refine ⟨rows, qcgz.v1 ?_, qbzz.v1 ?_, c⟩
          · simp (disch := omega) only [S]; exact a
          · simp (disch := omega) only [S, spec_min_eq, spec_max_eq]; exact b
      · obtain ⟨rows, a, b, c⟩ := ih (j + 1) acc (by omega) ha (by omega)
        refine ⟨rows, qcgz.v1 ?_, qbzz.v1 ?_, c⟩
        · simp (disch := omega) only [S]; exact a
        · simp (disch := omega) only [S, spec_min_eq, spec_max_eq]; exact b
  have outer : ∀ (e i : Nat) acc, i + e = l.length → rows2 acc → acc.length ≤ 6 * i → ∃ rows : List (List Int), Ev (fun k => qcgz.l0 k l l (l.length : Int) (i : Int) acc) (rows, true) ∧ Ev (fun k => qbzz.l0 k l l (l.length : Int) (i : Int) acc) (rows, true) ∧ rows2 rows ∧ rows.length ≤ 36 := by
    intro e
    induction e with
    | zero =>
      intro i acc hi ha hl
      refine ⟨acc, qcgz.v0 ?_, qbzz.v0 ?_, ha, by omega⟩ <;> simp (disch := omega) only [S] <;> exact Ev.now _
    | succ e ih =>
      intro i acc hi ha hl
      obtain ⟨rows, a, b, c⟩ := inner i (by omega) (fun acc ha hl => ih (i + 1) acc (by omega) ha hl) e (i + 1) acc (by omega) ha (by omega)
      refine ⟨rows, qcgz.v0 ?_, qbzz.v0 ?_, c⟩
      · simp (disch := omega) only [S]; exact a
      · simp (disch := omega) only [S]; exact b
  obtain ⟨rows, a, b, c⟩ := outer l.length 0 [] (by omega) (fun r hr => by simp at hr) (by simp)
  refine ⟨rows, qcgz.v (Ev.bind (impl_AreVisits_eq l) ?_), qbzz.v (Ev.bind (spec_wiGood_eq l) ?_), c⟩ <;> simp only [hok, S] <;> assumption
section
variable {α : Type}
def posAt (lt : α → α → Bool) (z x : α) (acc : List α) : Nat → Nat
  | 0 => 0
  | n + 1 => if lt x (acc.getD n z) = true then posAt lt z x acc n else n + 1
def insAt (acc : List α) (x : α) (n : Nat) : List α := acc.take n ++ x :: acc.drop n
def ins (lt : α → α → Bool) (z : α) (acc : List α) (x : α) : List α := insAt acc x (posAt lt z x acc acc.length)
def isort (lt : α → α → Bool) (z : α) (l : List α) : List α := l.foldl (ins lt z) []
theorem posAt_le (lt : α → α → Bool) (z x : α) (acc : List α) : ∀ n, posAt lt z x acc n ≤ n
  | 0 => Nat.le_refl _
  | n + 1 => by
    unfold posAt
    split
    · exact Nat.le_succ_of_le (posAt_le lt z x acc n)
    · exact Nat.le_refl _
theorem ins_len (lt : α → α → Bool) (z : α) (acc : List α) (x : α) : (ins lt z acc x).length = acc.length + 1 := by
  have := posAt_le lt z x acc acc.length
  unfold ins insAt
  simp
  omega
theorem isort_snoc (lt : α → α → Bool) (z : α) (l : List α) (x : α) : isort lt z (l ++ [x]) = ins lt z (isort lt z l) x := by
  unfold isort
  rw [List.foldl_append]
  rfl
theorem isort_len (lt : α → α → Bool) (z : α) (l : List α) : (isort lt z l).length = l.length := by
  have key : ∀ n, ∀ l : List α, l.length = n → (isort lt z l).length = n := by
    intro n
    induction n with
    | zero => intro l h; rw [List.length_eq_zero_iff.1 h]; rfl
    | succ n ih =>
      intro l h
      have h0 : l ≠ [] := by intro e; subst e; simp at h
      rw [← List.dropLast_concat_getLast h0, isort_snoc, ins_len, ih _ (by simp [h])]
  exact key _ l rfl
theorem insAt_perm (acc : List α) (x : α) (n : Nat) : (insAt acc x n).Perm (acc ++ [x]) := by
  unfold insAt
  have h : (acc.take n ++ x :: acc.drop n).Perm (x :: (acc.take n ++ acc.drop n)) := List.perm_middle
  rw [List.take_append_drop] at h
  exact h.trans (List.perm_append_singleton x acc).symm
theorem isort_perm (lt : α → α → Bool) (z : α) (l : List α) : (isort lt z l).Perm l := by
  have key : ∀ n, ∀ l : List α, l.length = n → (isort lt z l).Perm l := by
    intro n
    induction n with
    | zero => intro l h; rw [List.length_eq_zero_iff.1 h]; exact List.Perm.refl _
    | succ n ih =>
      intro l h
      have h0 : l ≠ [] := by intro e; subst e; simp at h
      have h1 := ih l.dropLast (by simp [h])
      have h2 : (isort lt z (l.dropLast ++ [l.getLast h0])).Perm (l.dropLast ++ [l.getLast h0]) := by
        rw [isort_snoc]
        exact (insAt_perm _ _ _).trans (h1.append_right _)
      rwa [List.dropLast_concat_getLast h0] at h2
  exact key _ l rfl
def CmpOk (G : Fu → α → α → Option Int) (lt : α → α → Bool) (P : α → Prop) : Prop := ∀ x y, P x → P y → ∃ c, Ev (fun k => G k x y) c ∧ iLt c 0 = lt x y
theorem swap2 {u w : List α} {p q z : α} : (u ++ p :: q :: w).getD u.length z = p ∧ (u ++ p :: q :: w).getD (u.length + 1) z = q ∧ ((u ++ p :: q :: w).set (u.length + 1) p).set u.length q = u ++ q :: p :: w := by
  refine ⟨?_, ?_, ?_⟩
  · simp [List.getD_eq_getElem?_getD]
  · rw [List.getD_eq_getElem?_getD, List.getElem?_append_right (by omega)]
    simp
  · rw [List.set_append_right _ _ (by omega), List.set_append_right _ _ (by omega)]
    simp
theorem ins_run {z : α} {G : Fu → α → α → Option Int} {lt : α → α → Bool} {P : α → Prop} (hG : CmpOk G lt P) {F0 : Fu → Int → Int → Int → List α → Option (List α)} {F1 : Fu → Int → Int → Int → Int → List α → Option (List α)}
    (step0 : ∀ {x0 x1 x2 : Int} {x3 : List α} {r}, Ev (fun k => if (iLt x2 x1) then F1 k x0 x1 x2 x2 x3 else some x3) r → Ev (fun k => F0 k x0 x1 x2 x3) r)
    (step1 : ∀ {x0 x1 x2 x3 : Int} {x4 : List α} {r}, Ev (fun k => if (iGt x3 x0) then ix x3 x4 <| ix (W (x3 - 1)) x4 <| (G k (rd z x4 x3) (rd z x4 (W (x3 - 1)))).bind fun t0 =>
      if (iLt t0 0) then ix (W (x3 - 1)) x4 <| ix x3 x4 <| ix x3 x4 <| ix (W (x3 - 1)) (List.set x4 (Int.toNat x3) (rd z x4 (W (x3 - 1)))) <| F1 k x0 x1 x2 (W (x3 - 1)) (List.set (List.set x4 (Int.toNat x3) (rd z x4 (W (x3 - 1)))) (Int.toNat (W (x3 - 1))) (rd z x4 x3)) else F0 k x0 x1 (W (x2 + 1)) x4 else F0 k x0 x1 (W (x2 + 1)) x4) r → Ev (fun k => F1 k x0 x1 x2 x3 x4) r)
    (pre blk post : List α) (hP : ∀ x ∈ blk, P x) (hl : pre.length + blk.length + post.length ≤ 1000000000) :
    Ev (fun k => F0 k (pre.length : Int) ((pre.length + blk.length : Nat) : Int) ((pre.length + 1 : Nat) : Int) (pre ++ blk ++ post)) (pre ++ isort lt z blk ++ post) := by
  have inner : ∀ (acc rest : List α) (x : α) (b i : Nat) (r : List α), (∀ y ∈ acc, P y) → P x → pre.length + acc.length + rest.length + 1 ≤ 1000000000 → i ≤ 1000000000 → ∀ n, n ≤ acc.length →
      Ev (fun k => F0 k (pre.length : Int) (b : Int) ((i + 1 : Nat) : Int) (pre ++ insAt acc x (posAt lt z x acc n) ++ rest)) r → Ev (fun k => F1 k (pre.length : Int) (b : Int) (i : Int) ((pre.length + n : Nat) : Int) (pre ++ insAt acc x n ++ rest)) r := by
    intro acc rest x b i r hacc hx hlen hi n
    have ei : W ((i : Int) + 1) = ((i + 1 : Nat) : Int) := by rw [w64 (by omega) (by omega)]; omega
    induction n with
    | zero =>
      intro _ h
      refine step1 ?_
      have c : iGt ((pre.length + 0 : Nat) : Int) (pre.length : Int) = false := decide_eq_false (by omega)
      simp only [c, ei, Bool.false_eq_true, if_false]
      exact h
    | succ n ih =>
      intro hn h
      have hy : acc.getD n z ∈ acc := getD_mem (by omega)
      obtain ⟨c, hc1, hc2⟩ := hG x (acc.getD n z) hx (hacc _ hy)
      have e1 : insAt acc x (n + 1) = acc.take n ++ acc.getD n z :: x :: acc.drop (n + 1) := by
        unfold insAt
        rw [take_snoc' z (by omega)]
        simp
      have e2 : insAt acc x n = acc.take n ++ x :: acc.getD n z :: acc.drop (n + 1) := by
        unfold insAt
        rw [drop_cons z (show n < acc.length by omega)]
      obtain ⟨s1, s2, s3⟩ := swap2 (u := pre ++ acc.take n) (w := acc.drop (n + 1) ++ rest) (p := acc.getD n z) (q := x) (z := z)
      have hu : (pre ++ acc.take n).length = pre.length + n := by simp; omega
      rw [hu] at s1 s2 s3
      have e3 : pre ++ insAt acc x (n + 1) ++ rest = pre ++ acc.take n ++ acc.getD n z :: x :: (acc.drop (n + 1) ++ rest) := by rw [e1]; simp
      have e4 : pre ++ insAt acc x n ++ rest = pre ++ acc.take n ++ x :: acc.getD n z :: (acc.drop (n + 1) ++ rest) := by rw [e2]; simp
      have hL : (pre ++ acc.take n ++ acc.getD n z :: x :: (acc.drop (n + 1) ++ rest)).length = pre.length + acc.length + rest.length + 1 := by simp; omega
      rw [e3]
      generalize hg : pre ++ acc.take n ++ acc.getD n z :: x :: (acc.drop (n + 1) ++ rest) = L at *
      have hL2 : (L.set (pre.length + (n + 1)) (acc.getD n z)).length = L.length := List.length_set
      have ej : W (((pre.length + (n + 1) : Nat) : Int) - 1) = ((pre.length + n : Nat) : Int) := by rw [w64 (by omega) (by omega)]; omega
      have s2' : L.getD (pre.length + (n + 1)) z = x := s2
      refine step1 ?_
      unfold posAt at h
      cases hlt : lt x (acc.getD n z) with
      | true =>
        rw [hlt, if_pos rfl] at h
        rw [hlt] at hc2
        have h' := ih (by omega) h
        rw [e4] at h'
        simp only [ej]
        simp (disch := omega) only [S, s1, s2', ei]
        refine Ev.bind hc1 ?_
        simp only [hc2, if_true]
        have s3' : (L.set (pre.length + (n + 1)) (acc.getD n z)).set (pre.length + n) x = pre ++ acc.take n ++ x :: acc.getD n z :: (acc.drop (n + 1) ++ rest) := s3
        rw [s3']
        exact h'
      | false =>
        rw [hlt, if_neg (by simp)] at h
        rw [hlt] at hc2
        rw [e3] at h
        simp only [ej]
        simp (disch := omega) only [S, s1, s2', ei]
        refine Ev.bind hc1 ?_
        simp only [hc2, Bool.false_eq_true, if_false]
        exact h
  have outer : ∀ (d n : Nat), n + d = blk.length → 1 ≤ n → Ev (fun k => F0 k (pre.length : Int) ((pre.length + blk.length : Nat) : Int) ((pre.length + n : Nat) : Int) (pre ++ isort lt z (blk.take n) ++ (blk.drop n ++ post))) (pre ++ isort lt z blk ++ post) := by
    intro d
    induction d with
    | zero =>
      intro n hn h1
      rw [List.take_of_length_le (by omega), List.drop_eq_nil_of_le (by omega)]
      refine step0 ?_
      simp (disch := omega) only [S]
      exact Ev.now _
    | succ d ih =>
      intro n hn h1
      have h := ih (n + 1) (by omega) (by omega)
      have hl1 := isort_len lt z (blk.take n)
      have hl2 : (blk.take n).length = n := by rw [List.length_take]; omega
      rw [take_snoc' z (show n < blk.length by omega), isort_snoc] at h
      rw [drop_cons z (show n < blk.length by omega)]
      refine step0 ?_
      simp (disch := omega) only [S]
      have hi := inner (isort lt z (blk.take n)) (blk.drop (n + 1) ++ post) (blk.getD n z) (pre.length + blk.length) (pre.length + n) _ (fun y hy => hP y (List.mem_of_mem_take ((isort_perm lt z _).mem_iff.1 hy))) (hP _ (getD_mem (by omega))) (by simp; omega) (by omega) n (by omega) (by
        unfold ins at h
        rw [hl1, hl2] at h
        exact h)
      have e : insAt (isort lt z (blk.take n)) (blk.getD n z) n = isort lt z (blk.take n) ++ [blk.getD n z] := by
        unfold insAt
        rw [List.take_of_length_le (by omega), List.drop_eq_nil_of_le (by omega)]
      rw [e] at hi
      simpa using hi
  cases blk with
  | nil =>
    refine step0 ?_
    have c : iLt ((pre.length + 1 : Nat) : Int) ((pre.length + ([] : List α).length : Nat) : Int) = false := decide_eq_false (by simp; omega)
    simp only [c, Bool.false_eq_true, if_false]
    exact Ev.now _
  | cons x l =>
    have h := outer l.length 1 (by simp; omega) (Nat.le_refl _)
    have e : isort lt z ((x :: l).take 1) = [x] := by simp [isort, ins, insAt, posAt]
    rw [e] at h
    simpa using h
end
theorem cmp_Compare_eq (a b : Int) : ∃ c, qdoz.f a b = some c ∧ (iLt c 0 = decide (a < b)) ∧ (c = 0 ↔ a = b) := by
  have hn : ∀ n : Int, (n != n) = false := fun n => bne_self_eq_false n
  unfold qdoz.f qevz.f
  simp only [Option.bind_some, hn, Bool.false_eq_true, if_false]
  rcases Int.lt_trichotomy a b with h | h | h
  · refine ⟨-1, by simp (disch := omega) only [S], by rw [decide_eq_true h]; rfl, by omega⟩
  · refine ⟨0, by simp (disch := omega) only [S], by rw [decide_eq_false (by omega)]; rfl, by omega⟩
  · refine ⟨1, by simp (disch := omega) only [S], by rw [decide_eq_false (by omega)]; rfl, by omega⟩
def bef : List Int → List Int → Bool
  | a :: l, b :: m => if a = b then bef l m else decide (a < b)
  | _, _ => false
theorem spec_meBefore_eq {a b : List Int} (h : a.length = b.length) (hl : a.length ≤ 1000000) : Ev (fun k => qeqz.f k a b) (bef a b) := by
  have key : ∀ (d i : Nat), i + d = a.length → Ev (fun k => qeqz.l0 k a b (a.length : Int) (i : Int)) (bef (a.drop i) (b.drop i)) := by
    intro d
    induction d with
    | zero =>
      intro i hi
      rw [List.drop_eq_nil_of_le (by omega), List.drop_eq_nil_of_le (by omega)]
      refine qeqz.v0 ?_
      simp (disch := omega) only [S]
      exact Ev.now _
    | succ d ih =>
      intro i hi
      have h1 := ih (i + 1) (by omega)
      rw [drop_cons 0 (show i < a.length by omega), drop_cons 0 (show i < b.length by omega)]
      unfold bef
      refine qeqz.v0 ?_
      by_cases e : a.getD i 0 = b.getD i 0
      · rw [if_pos e]
        simp (disch := omega) only [S]
        exact h1
      · rw [if_neg e]
        simp (disch := omega) only [S]
        exact Ev.now _
  exact qeqz.v (key a.length 0 (by omega))
def idx (n : Nat) : List Int := (List.range n).map fun i : Nat => (i : Int)
theorem idx_succ (n : Nat) : idx (n + 1) = idx n ++ [(n : Int)] := by unfold idx; rw [List.range_succ]; simp
theorem idx_mem {n : Nat} {x : Int} (h : x ∈ idx n) : ∃ i : Nat, x = (i : Int) ∧ i < n := by
  unfold idx at h
  obtain ⟨i, hi, rfl⟩ := List.mem_map.1 h
  exact ⟨i, rfl, List.mem_range.1 hi⟩
theorem idx_len (n : Nat) : (idx n).length = n := by unfold idx; simp
def keyLt (keys : List (List Int)) (i j : Int) : Bool := bef (keys.getD i.toNat []) (keys.getD j.toNat [])
theorem spec_meOrder_eq {keys : List (List Int)} {m : Nat} (hm : m ≤ 10) (hk : ∀ x ∈ keys, x.length = m) (hl : keys.length ≤ 1000) : Ev (fun k => qfwz.f k keys) (isort (keyLt keys) 0 (idx keys.length)) := by
  have inner : ∀ (i : Nat) (out : List Int) (r : List Int), i < keys.length → out.length = i → (∀ x ∈ out, ∃ j : Nat, x = (j : Int) ∧ j < i) → ∀ n, n ≤ out.length →
      Ev (fun k => qfwz.l0 k keys keys (keys.length : Int) ((i + 1 : Nat) : Int) (insAt out (i : Int) (posAt (keyLt keys) 0 (i : Int) out n))) r → Ev (fun k => qfwz.l1 k keys (i : Int) (keys.getD i []) (n : Int) keys (keys.length : Int) (i : Int) out) r := by
    intro i out r hi ho hx n
    have fin : ∀ p : Nat, p ≤ out.length → ((out.take p ++ [(i : Int)]) ++ (out.drop p).take (out.length - p)) = insAt out (i : Int) p := by
      intro p hp
      have e : (out.drop p).take (out.length - p) = out.drop p := List.take_of_length_le (by simp)
      unfold insAt
      rw [e]
      simp
    induction n with
    | zero =>
      intro _ h
      have hf := fin 0 (Nat.zero_le _)
      have h' : Ev (fun k => qfwz.l0 k keys keys (keys.length : Int) ((i + 1 : Nat) : Int) (insAt out (i : Int) 0)) r := h
      refine qfwz.v1 ?_
      have c : iGt ((0 : Nat) : Int) 0 = false := rfl
      have hlt : ((out.take 0).length) = 0 := by simp
      have hl3 : (List.take (out.length - 0) (List.drop 0 out)).length = out.length := by simp
      simp only [c, Bool.false_eq_true, if_false]
      unfold qhmz.f
      simp (disch := omega) only [S, List.nil_append, List.length_append, List.length_cons, List.length_nil, List.length_take, List.length_drop]
      rw [hf]
      exact h'
    | succ n ih =>
      intro hn h
      have hy := hx _ (getD_mem (z := 0) (show n < out.length by omega))
      obtain ⟨j, ej, hj⟩ := hy
      have hkj : (keys.getD i []).length = (keys.getD j []).length := by rw [hk _ (getD_mem hi), hk _ (getD_mem (by omega))]
      have hb := spec_meBefore_eq hkj (by rw [hk _ (getD_mem hi)]; omega)
      have hlt : keyLt keys (i : Int) (out.getD n 0) = bef (keys.getD i []) (keys.getD j []) := by unfold keyLt; rw [ej]; rfl
      have ew : W (((n + 1 : Nat) : Int) - 1) = ((n : Nat) : Int) := by rw [w64 (by omega) (by omega)]; omega
      unfold posAt at h
      rw [hlt] at h
      refine qfwz.v1 ?_
      simp only [ew]
      simp (disch := omega) only [S, ej]
      refine Ev.bind hb ?_
      cases hbf : bef (keys.getD i []) (keys.getD j []) with
      | true =>
        rw [hbf, if_pos rfl] at h
        simp only [if_true]
        exact ih (by omega) h
      | false =>
        rw [hbf, if_neg (by simp)] at h
        have hf := fin (n + 1) hn
        unfold qhmz.f
        simp (disch := omega) only [S, List.nil_append, List.length_append, List.length_cons, List.length_nil, List.length_take, List.length_drop]
        rw [hf]
        exact h
  have outer : ∀ (d i : Nat), i + d = keys.length → Ev (fun k => qfwz.l0 k keys keys (keys.length : Int) (i : Int) (isort (keyLt keys) 0 (idx i))) (isort (keyLt keys) 0 (idx keys.length)) := by
    intro d
    induction d with
    | zero =>
      intro i hi
      rw [show i = keys.length by omega]
      refine qfwz.v0 ?_
      simp (disch := omega) only [S]
      exact Ev.now _
    | succ d ih =>
      intro i hi
      have h := ih (i + 1) (by omega)
      have hl := isort_len (keyLt keys) 0 (idx i)
      rw [idx_len] at hl
      rw [idx_succ, isort_snoc] at h
      refine qfwz.v0 ?_
      simp (disch := omega) only [S]
      rw [hl]
      refine inner i _ _ (by omega) hl (fun x hx => idx_mem ((isort_perm _ _ _).mem_iff.1 hx)) i (by omega) ?_
      unfold ins at h
      rw [hl] at h
      exact h
  exact qfwz.v (outer keys.length 0 (by omega))
theorem isort_congr {α : Type} {lt lt' : α → α → Bool} {z : α} {P : α → Prop} (h : ∀ x y, P x → P y → lt x y = lt' x y) : ∀ l : List α, (∀ x ∈ l, P x) → isort lt z l = isort lt' z l := by
  have hp : ∀ (x : α) (acc : List α), P x → (∀ y ∈ acc, P y) → ∀ n, n ≤ acc.length → posAt lt z x acc n = posAt lt' z x acc n := by
    intro x acc hx ha n
    induction n with
    | zero => intro _; rfl
    | succ n ih =>
      intro hn
      unfold posAt
      rw [h x _ hx (ha _ (getD_mem (by omega))), ih (by omega)]
  have key : ∀ n, ∀ l : List α, l.length = n → (∀ x ∈ l, P x) → isort lt z l = isort lt' z l := by
    intro n
    induction n with
    | zero => intro l h _; rw [List.length_eq_zero_iff.1 h]; rfl
    | succ n ih =>
      intro l hl hP
      have h0 : l ≠ [] := by intro e; subst e; simp at hl
      have e := ih l.dropLast (by simp [hl]) (fun x hx => hP x ((List.dropLast_sublist l).subset hx))
      have e2 : isort lt z (l.dropLast ++ [l.getLast h0]) = isort lt' z (l.dropLast ++ [l.getLast h0]) := by
        rw [isort_snoc, isort_snoc, e]
        unfold ins
        rw [hp _ _ (hP _ (List.getLast_mem h0)) (fun y hy => hP y ((List.dropLast_sublist l).subset ((isort_perm lt' z _).mem_iff.1 hy))) _ (Nat.le_refl _)]
      rwa [List.dropLast_concat_getLast h0] at e2
  exact fun l => key l.length l rfl
theorem or_eq (a b : Int) : Ev (fun k => qhlz.f k [a, b]) (if a = 0 then b else a) := by
  refine qhlz.v (qhlz.v0 ?_)
  have e0 : W (0 + 1) = 1 := by decide
  have e1 : W (1 + 1) = 2 := by decide
  by_cases ha : a = 0
  · rw [if_pos ha]
    simp (disch := omega) only [S, List.length_cons, List.length_nil, rd0, Int.zero_add]
    refine qhlz.v0 ?_
    by_cases hb : b = 0
    · subst hb
      simp (disch := omega) only [S, List.length_cons, List.length_nil, rd1]
      refine qhlz.v0 ?_
      simp (disch := omega) only [S, List.length_cons, List.length_nil]
      exact Ev.now _
    · simp (disch := omega) only [S, List.length_cons, List.length_nil, rd1]
      exact Ev.now _
  · rw [if_neg ha]
    simp (disch := omega) only [S, List.length_cons, List.length_nil, rd0]
    exact Ev.now _
def wAt (l : List Wk) (i : Int) : Wk := l.getD i.toNat (0, 0)
def ltLast (l : List Wk) (i j : Int) : Bool := decide ((wAt l i).2 < (wAt l j).2 ∨ ((wAt l i).2 = (wAt l j).2 ∧ (wAt l i).1 < (wAt l j).1))
def plc (n d : Int) (w : Wk) : Int := w.1 * d + w.2 * n
def ltAt (l : List Wk) (n d : Int) (i j : Int) : Bool := decide (plc n d (wAt l i) < plc n d (wAt l j))
def inR (m : Nat) (x : Int) : Prop := ∃ i : Nat, x = (i : Int) ∧ i < m
theorem cmpLast (l : List Wk) : CmpOk (fun k x y => qblz.f k x y l) (ltLast l) (inR l.length) := by
  rintro x y ⟨i, rfl, hi⟩ ⟨j, rfl, hj⟩
  obtain ⟨c1, e1, l1, z1⟩ := cmp_Compare_eq (l.getD i (0, 0)).2 (l.getD j (0, 0)).2
  obtain ⟨c2, e2, l2, z2⟩ := cmp_Compare_eq (l.getD i (0, 0)).1 (l.getD j (0, 0)).1
  refine ⟨if c1 = 0 then c2 else c1, qblz.v ?_, ?_⟩
  · simp (disch := omega) only [S]
    refine Ev.bind (qcuz.v ?_) (Ev.now _)
    simp only [e1, e2, S]
    exact Ev.bind (or_eq c1 c2) (Ev.now _)
  · unfold ltLast wAt
    simp only [Int.toNat_natCast]
    by_cases hc : c1 = 0
    · rw [if_pos hc, l2]
      have := z1.1 hc
      exact dec_e (by omega)
    · rw [if_neg hc, l1]
      have : ¬ (l.getD i (0, 0)).2 = (l.getD j (0, 0)).2 := fun e => hc (z1.2 e)
      exact dec_e (by omega)
theorem plc_bd {w : Wk} (hw : wOk w = true) {n d : Int} (hn : 0 ≤ n ∧ n ≤ 1000000) (hd : 1 ≤ d ∧ d ≤ 1000) : qfhz.f w.1 w.2 n d = some (plc n d w) ∧ W (W (w.1 * d) + W (w.2 * n)) = plc n d w ∧ -200000000 ≤ plc n d w ∧ plc n d w ≤ 200000000 := by
  obtain ⟨p1, p2⟩ := place_bd hw hn (show 0 ≤ d ∧ d ≤ 1000 by omega)
  unfold qfhz.f plc
  have e : W (W (w.1 * d) + W (w.2 * n)) = w.1 * d + w.2 * n := by rw [w64 (x := w.1 * d) (by omega) (by omega), w64 (x := w.2 * n) (by omega) (by omega), w64 (by omega) (by omega)]
  exact ⟨congrArg some e, e, by omega, by omega⟩
theorem cmpAt {l : List Wk} (hl : ∀ w ∈ l, wOk w = true) {n d : Int} (hn : 0 ≤ n ∧ n ≤ 1000000) (hd : 1 ≤ d ∧ d ≤ 1000) : CmpOk (fun _ x y => qbjz.f x y n d l) (ltAt l n d) (inR l.length) := by
  rintro x y ⟨i, rfl, hi⟩ ⟨j, rfl, hj⟩
  have p1 := plc_bd (hl _ (getD_mem (z := (0, 0)) hi)) hn hd
  have p2 := plc_bd (hl _ (getD_mem (z := (0, 0)) hj)) hn hd
  obtain ⟨c1, e1, l1, z1⟩ := cmp_Compare_eq (plc n d (l.getD i (0, 0))) (plc n d (l.getD j (0, 0)))
  refine ⟨c1, ev_of ?_, ?_⟩
  · unfold qbjz.f qcjz.f
    simp (disch := omega) only [S, p1.1, p2.1, e1]
  · rw [l1]
    rfl
theorem fill_idx {β : Type} {F : Fu → Int → List Int → Option β} {n : Nat} {r : β} (hend : Ev (fun k => F k (n : Int) (idx n)) r)
    (hstep : ∀ (i : Nat) (xs : List Int), i < n → xs.length = n → Ev (fun k => F k ((i + 1 : Nat) : Int) (xs.set i (i : Int))) r → Ev (fun k => F k (i : Int) xs) r) :
    Ev (fun k => F k 0 (List.replicate n (0 : Int))) r := by
  have key : ∀ (d i : Nat), i + d = n → Ev (fun k => F k (i : Int) (idx i ++ List.replicate d (0 : Int))) r := by
    intro d
    induction d with
    | zero =>
      intro i hi
      rw [show i = n by omega, List.replicate_zero, List.append_nil]
      exact hend
    | succ d ih =>
      intro i hi
      refine hstep i _ (by omega) (by simp [idx_len]; omega) ?_
      have h := ih (i + 1) (by omega)
      rw [List.replicate_succ, List.set_append_right _ _ (by rw [idx_len]; omega), idx_len, Nat.sub_self, List.set_cons_zero]
      rw [idx_succ] at h
      simpa using h
  exact key n 0 (by omega)
theorem impl_LastSorted_eq {l : List Wk} (hok : listOk 8 wOk l = true) : Ev (fun k => qbgz.f k l) (isort (ltLast l) 0 (idx l.length)) := by
  obtain ⟨h1, h2⟩ := listOk_iff.1 hok
  refine qbgz.v ?_
  simp (disch := omega) only [S, List.length_replicate]
  refine fill_idx (F := fun k i xs => qbgz.l0 k (l.length : Int) i l xs) ?_ ?_
  · have hil := idx_len l.length
    refine qbgz.v0 ?_
    simp (disch := omega) only [S]
    refine Ev.bind (qauz.v ?_) (Ev.now _)
    refine Ev.bind (qbbz.v (qbbz.v0 ?_)) (Ev.now _)
    simp (disch := omega) only [S]
    refine Ev.bind (v := isort (ltLast l) 0 (idx l.length)) (qapz.v ?_) (qbbz.v1 ?_)
    · have h := ins_run (cmpLast l) (F0 := fun k a b i arr => qapz.l0 k a b l i arr) (F1 := fun k a b i j arr => qapz.l1 k a b l i j arr)
        qapz.v0 qapz.v1 [] (idx l.length) [] (fun x hx => idx_mem hx) (by simp [idx_len]; omega)
      simp only [List.length_nil, Nat.zero_add, List.nil_append, List.append_nil, idx_len] at h
      rw [hil, show W (0 + 1) = 1 by decide]
      exact h
    · simp (disch := omega) only [S]
      exact Ev.now _
  · intro i xs hi hx h
    refine qbgz.v0 ?_
    simp (disch := omega) only [S]
    exact h
theorem impl_AtSorted_eq {l : List Wk} (hok : listOk 8 wOk l = true) {n d : Int} (hn : 0 ≤ n ∧ n ≤ 1000000) (hd : 1 ≤ d ∧ d ≤ 1000) : Ev (fun k => qbhz.f k l n d) (isort (ltAt l n d) 0 (idx l.length)) := by
  obtain ⟨h1, h2⟩ := listOk_iff.1 hok
  refine qbhz.v ?_
  simp (disch := omega) only [S, List.length_replicate]
  refine fill_idx (F := fun k i xs => qbhz.l0 k (l.length : Int) i l n d xs) ?_ ?_
  · have hil := idx_len l.length
    refine qbhz.v0 ?_
    simp (disch := omega) only [S]
    refine Ev.bind (qaoz.v ?_) (Ev.now _)
    refine Ev.bind (qawz.v (qawz.v0 ?_)) (Ev.now _)
    simp (disch := omega) only [S]
    refine Ev.bind (v := isort (ltAt l n d) 0 (idx l.length)) (qakz.v ?_) (qawz.v1 ?_)
    · have h := ins_run (cmpAt h2 hn hd) (F0 := fun k a b i arr => qakz.l0 k a b n d l i arr) (F1 := fun k a b i j arr => qakz.l1 k a b n d l i j arr)
        qakz.v0 qakz.v1 [] (idx l.length) [] (fun x hx => idx_mem hx) (by simp [idx_len]; omega)
      simp only [List.length_nil, Nat.zero_add, List.nil_append, List.append_nil, idx_len] at h
      rw [hil, show W (0 + 1) = 1 by decide]
      exact h
    · simp (disch := omega) only [S]
      exact Ev.now _
  · intro i xs hi hx h
    refine qbhz.v0 ?_
    simp (disch := omega) only [S]
    exact h
theorem sorted_bd {lt : Int → Int → Bool} {m : Nat} (hm : m ≤ 8) : (isort lt 0 (idx m)).length = m ∧ ∀ x ∈ isort lt 0 (idx m), i64 x := by
  refine ⟨by rw [isort_len, idx_len], fun x hx => ?_⟩
  obtain ⟨i, rfl, hi⟩ := idx_mem ((isort_perm _ _ _).mem_iff.1 hx)
  unfold i64
  omega
theorem LastOrder_same {l : List Wk} (hok : listOk 8 wOk l = true) : ∃ L : List Int, Ev (fun k => qedz.f k l) (L, true) ∧ Ev (fun k => qeaz.f k l) (L, true) ∧ L.length = l.length ∧ ∀ n ∈ L, i64 n := by
  obtain ⟨h1, h2⟩ := listOk_iff.1 hok
  refine ⟨isort (ltLast l) 0 (idx l.length), qedz.v (Ev.bind (impl_AreWalkers_eq l) ?_), qeaz.v (Ev.bind (spec_meAll_eq l) ?_), sorted_bd h1.2⟩
  · simp only [hok, S]
    exact Ev.bind (impl_LastSorted_eq hok) (Ev.now _)
  · simp only [hok, S]
    have hk : ∀ (e i : Nat), i + e = l.length → Ev (fun k => qeaz.l0 k l (l.length : Int) (i : Int) ((l.take i).map fun w => [w.2, w.1])) (isort (ltLast l) 0 (idx l.length), true) := by
      intro e
      induction e with
      | zero =>
        intro i hi
        rw [List.take_of_length_le (by omega)]
        refine qeaz.v0 ?_
        simp (disch := omega) only [S]
        have ho := spec_meOrder_eq (keys := l.map fun w => [w.2, w.1]) (m := 2) (by decide) (by intro x hx; obtain ⟨w, _, rfl⟩ := List.mem_map.1 hx; rfl) (by simp; omega)
        rw [List.length_map] at ho
        refine Ev.bind ho (ev_now ?_)
        rw [isort_congr (lt' := ltLast l) (P := inR l.length) ?_ _ (fun x hx => idx_mem hx)]
        rintro x y ⟨i, rfl, hi⟩ ⟨j, rfl, hj⟩
        unfold keyLt ltLast wAt
        have g : ∀ i, i < l.length → (l.map fun w => [w.2, w.1]).getD i [] = [(l.getD i (0, 0)).2, (l.getD i (0, 0)).1] := fun i hi => by simp [hi]
        simp only [Int.toNat_natCast, g i hi, g j hj, bef]
        by_cases e1 : (l.getD i (0, 0)).2 = (l.getD j (0, 0)).2
        · rw [if_pos e1]
          by_cases e2 : (l.getD i (0, 0)).1 = (l.getD j (0, 0)).1
          · rw [if_pos e2]; exact (dec_f (by omega)).symm
          · rw [if_neg e2]; exact dec_e (by omega)
        · rw [if_neg e1]; exact dec_e (by omega)
      | succ e ih =>
        intro i hi
        have h := ih (i + 1) (by omega)
        rw [take_snoc' (0, 0) (show i < l.length by omega), List.map_append] at h
        have hl : ((l.take i).map fun w : Wk => [w.2, w.1]).length = i := by simp; omega
        refine qeaz.v0 ?_
        simp (disch := omega) only [S]
        exact h
    exact hk l.length 0 (by omega)
theorem WalkersAt_same {l : List Wk} (hok : listOk 8 wOk l = true) {n d : Int} (hn : 0 ≤ n ∧ n ≤ 1000000) (hd : 1 ≤ d ∧ d ≤ 1000) : ∃ L : List Int, Ev (fun k => qdyz.f k l n d) (L, true) ∧ Ev (fun k => qehz.f k l n d) (L, true) ∧ L.length = l.length ∧ ∀ n ∈ L, i64 n := by
  obtain ⟨h1, h2⟩ := listOk_iff.1 hok
  refine ⟨isort (ltAt l n d) 0 (idx l.length), qdyz.v (Ev.bind (impl_AreWalkers_eq l) ?_), qehz.v (Ev.bind (spec_meAll_eq l) ?_), sorted_bd h1.2⟩
  · have hT : qhiz.f n d = some true := by unfold qhiz.f; simp only [impl_within_eq, S, decide_eq_true hn, decide_eq_true hd]
    simp only [hok, S, hT]
    exact Ev.bind (impl_AtSorted_eq hok hn hd) (Ev.now _)
  · have hT : qgrz.f n d = some true := by unfold qgrz.f; simp only [spec_l1In_eq, S, decide_eq_true hn, decide_eq_true hd]
    simp only [hok, S, hT]
    have hk : ∀ (e i : Nat), i + e = l.length → Ev (fun k => qehz.l0 k n d l (l.length : Int) (i : Int) ((l.take i).map fun w => [plc n d w])) (isort (ltAt l n d) 0 (idx l.length), true) := by
      intro e
      induction e with
      | zero =>
        intro i hi
        rw [List.take_of_length_le (by omega)]
        refine qehz.v0 ?_
        simp (disch := omega) only [S]
        have ho := spec_meOrder_eq (keys := l.map fun w => [plc n d w]) (m := 1) (by decide) (by intro x hx; obtain ⟨w, _, rfl⟩ := List.mem_map.1 hx; rfl) (by simp; omega)
        rw [List.length_map] at ho
        refine Ev.bind ho (ev_now ?_)
        rw [isort_congr (lt' := ltAt l n d) (P := inR l.length) ?_ _ (fun x hx => idx_mem hx)]
        rintro x y ⟨i, rfl, hi⟩ ⟨j, rfl, hj⟩
        unfold keyLt ltAt wAt
        have g : ∀ i, i < l.length → (l.map fun w => [plc n d w]).getD i [] = [plc n d (l.getD i (0, 0))] := fun i hi => by simp [hi]
        simp only [Int.toNat_natCast, g i hi, g j hj, bef]
        by_cases e1 : plc n d (l.getD i (0, 0)) = plc n d (l.getD j (0, 0))
        · rw [if_pos e1]; exact (dec_f (by omega)).symm
        · rw [if_neg e1]
      | succ e ih =>
        intro i hi
        have h := ih (i + 1) (by omega)
        have hp := plc_bd (h2 _ (getD_mem (z := (0, 0)) (show i < l.length by omega))) hn hd
        rw [take_snoc' (0, 0) (show i < l.length by omega), List.map_append] at h
        have hl : ((l.take i).map fun w : Wk => [plc n d w]).length = i := by simp; omega
        refine qehz.v0 ?_
        rw [show rd (0, 0) l (i : Int) = l.getD i (0, 0) from rfl, hp.2.1]
        simp (disch := omega) only [S]
        exact h
    exact hk l.length 0 (by omega)
def mLt (e f : List Int) : Bool := decide (e.getD 2 0 * f.getD 3 0 < f.getD 2 0 * e.getD 3 0)
def mIx (e : List Int) : Int := e.getD 0 0 * 8 + e.getD 1 0
def mOk (e : List Int) : Prop := ∃ i k n d : Int, e = [i, k, n, d] ∧ (0 ≤ i ∧ i ≤ 7) ∧ (0 ≤ k ∧ k ≤ 7) ∧ (0 ≤ n ∧ n ≤ 2000) ∧ (0 < d ∧ d ≤ 200)
def lex (x y : List Int) : Prop := mLt x y = true ∨ (mLt y x = false ∧ mIx x < mIx y)
theorem mLt_ntr {x y w : List Int} (hx : mOk x) (hy : mOk y) (hw : mOk w) (h1 : mLt x y = false) (h2 : mLt y w = false) : mLt x w = false := by
  obtain ⟨_, _, a, b, rfl, _, _, ha, hb⟩ := hx
  obtain ⟨_, _, c, d, rfl, _, _, hc, hd⟩ := hy
  obtain ⟨_, _, e, f, rfl, _, _, he, hf⟩ := hw
  unfold mLt at *
  simp only [List.getD_cons_zero, List.getD_cons_succ] at *
  have h1 := of_decide_eq_false h1
  have h2 := of_decide_eq_false h2
  refine decide_eq_false fun h3 => ?_
  have q1 : c * b ≤ a * d := by omega
  have q2 : e * d ≤ c * f := by omega
  have p1 := Int.mul_le_mul_of_nonneg_right q1 (show 0 ≤ f by omega)
  have p2 := Int.mul_le_mul_of_nonneg_right q2 (show 0 ≤ b by omega)
  have p3 := Int.mul_lt_mul_of_pos_right h3 hd.1
  have e1 : c * b * f = c * f * b := by ac_rfl
  have e2 : a * d * f = a * f * d := by ac_rfl
  have e3 : e * d * b = e * b * d := by ac_rfl
  omega
theorem mLt_asym {x y : List Int} (h : mLt x y = true) : mLt y x = false := by
  unfold mLt at *
  have := of_decide_eq_true h
  exact decide_eq_false (by omega)
theorem mLt_irr (x : List Int) : mLt x x = false := decide_eq_false (by omega)
theorem lex_le {x y : List Int} (h : lex x y) : mLt y x = false := h.elim mLt_asym fun h => h.1
theorem lex_of {x y : List Int} (h : mLt y x = false) (hi : mIx x < mIx y) : lex x y := by
  cases hc : mLt x y with
  | true => exact .inl hc
  | false => exact .inr ⟨h, hi⟩
theorem mLt_in {x y a b : List Int} (hx : mOk x) (hy : mOk y) (ha : mOk a) (hb : mOk b) (h : mLt x y = true) (h1 : mLt x a = false) (h2 : mLt b y = false) : mLt a b = true := by
  cases hc : mLt a b with
  | true => rfl
  | false =>
    have := mLt_ntr hx hb hy (mLt_ntr hx ha hb h1 hc) h2
    rw [this] at h
    cases h
abbrev Srt (l : List (List Int)) : Prop := l.Pairwise lex
theorem Srt.at {l : List (List Int)} (h : Srt l) {i j : Nat} (hij : i < j) (hj : j < l.length) : lex (l.getD i []) (l.getD j []) := by
  have := List.pairwise_iff_getElem.1 h i j (by omega) hj hij
  rw [List.getD_eq_getElem?_getD, List.getD_eq_getElem?_getD, List.getElem?_eq_getElem (show i < l.length by omega), List.getElem?_eq_getElem hj]
  exact this
theorem Srt.le {l : List (List Int)} (h : Srt l) {i j : Nat} (hij : i ≤ j) (hj : j < l.length) : mLt (l.getD j []) (l.getD i []) = false := by
  rcases Nat.lt_or_ge i j with h1 | h1
  · exact lex_le (h.at h1 hj)
  · have : i = j := by omega
    subst this
    exact mLt_irr _
theorem mem_take_at {α : Type} {z x : α} {l : List α} {n : Nat} (h : x ∈ l.take n) : ∃ i, i < n ∧ i < l.length ∧ l.getD i z = x := by
  obtain ⟨i, hi, e⟩ := List.getElem_of_mem h
  have hi' : i < n ∧ i < l.length := by rw [List.length_take] at hi; omega
  refine ⟨i, hi'.1, hi'.2, ?_⟩
  rw [List.getD_eq_getElem?_getD, List.getElem?_eq_getElem hi'.2]
  simpa using e
theorem mem_drop_at {α : Type} {z x : α} {l : List α} {n : Nat} (h : x ∈ l.drop n) : ∃ i, n ≤ i ∧ i < l.length ∧ l.getD i z = x := by
  obtain ⟨i, hi, e⟩ := List.getElem_of_mem h
  have hi' : n + i < l.length := by rw [List.length_drop] at hi; omega
  refine ⟨n + i, by omega, hi', ?_⟩
  rw [List.getD_eq_getElem?_getD, List.getElem?_eq_getElem hi']
  simpa using e
theorem srt_ins {l : List (List Int)} (hl : Srt l) {x : List Int} {n : Nat} (h1 : ∀ i, i < n → i < l.length → lex (l.getD i []) x) (h2 : ∀ i, n ≤ i → i < l.length → lex x (l.getD i [])) : Srt (insAt l x n) := by
  unfold insAt
  have ht := List.Pairwise.sublist (List.take_sublist n l) hl
  have hd := List.Pairwise.sublist (List.drop_sublist n l) hl
  refine List.pairwise_append.2 ⟨ht, List.pairwise_cons.2 ⟨fun y hy => ?_, hd⟩, fun a ha b hb => ?_⟩
  · obtain ⟨i, i1, i2, rfl⟩ := mem_drop_at (z := []) hy
    exact h2 i i1 i2
  · obtain ⟨i, i1, i2, rfl⟩ := mem_take_at (z := []) ha
    rcases List.mem_cons.1 hb with rfl | hb
    · exact h1 i i1 i2
    · obtain ⟨j, j1, j2, rfl⟩ := mem_drop_at (z := []) hb
      exact hl.at (by omega) j2
theorem srt_unique : ∀ {a b : List (List Int)}, Srt a → Srt b → a.Perm b → (∀ x ∈ a, mOk x) → a = b := by
  intro a
  induction a with
  | nil => intro b _ _ h _; exact (List.Perm.nil_eq h)
  | cons x a ih =>
    intro b ha hb h hok
    cases b with
    | nil => exact absurd h.symm.nil_eq (by simp)
    | cons y b =>
      have hxy : x = y := by
        by_cases e : x = y
        · exact e
        · have h1 : y ∈ a := by
            have := h.mem_iff.2 (List.mem_cons_self (a := y) (l := b))
            rcases List.mem_cons.1 this with h | h
            · exact absurd h.symm e
            · exact h
          have h2 : x ∈ b := by
            have := h.mem_iff.1 (List.mem_cons_self (a := x) (l := a))
            rcases List.mem_cons.1 this with h | h
            · exact absurd h e
            · exact h
          have l1 := (List.pairwise_cons.1 ha).1 y h1
          have l2 := (List.pairwise_cons.1 hb).1 x h2
          exfalso
          rcases l1 with l1 | l1
          · rw [lex_le l2] at l1; cases l1
          · rcases l2 with l2 | l2
            · rw [l1.1] at l2; cases l2
            · omega
      subst hxy
      rw [ih (List.pairwise_cons.1 ha).2 (List.pairwise_cons.1 hb).2 (List.Perm.cons_inv h) (fun z hz => hok z (List.mem_cons_of_mem _ hz))]
theorem cmpM : CmpOk (fun _ x y => qbvz.f x y) mLt mOk := by
  rintro x y ⟨i, k, n, d, rfl, _, _, hn, hd⟩ ⟨i', k', n', d', rfl, _, _, hn', hd'⟩
  obtain ⟨c, e, l, _⟩ := cmp_Compare_eq (n * d') (n' * d)
  have m1 := mulb (a := n) (b := d') (A := 2000) (B := 200) (by omega) (by omega) (by omega) (by omega)
  have m2 := mulb (a := n') (b := d) (A := 2000) (B := 200) (by omega) (by omega) (by omega) (by omega)
  refine ⟨c, ev_of ?_, ?_⟩
  · unfold qbvz.f
    simp only [rd2, rd3]
    simp (disch := omega) only [S, List.length_cons, List.length_nil, e]
  · rw [l]; rfl
theorem srt_isort : ∀ (l : List (List Int)), (∀ x ∈ l, mOk x) → l.Pairwise (fun x y => mIx x < mIx y) → Srt (isort mLt [] l) := by
  have hins : ∀ (acc : List (List Int)) (x : List Int), Srt acc → (∀ y ∈ acc, mOk y) → mOk x → (∀ y ∈ acc, mIx y < mIx x) → Srt (ins mLt [] acc x) := by
    intro acc x ha hok hx hix
    have key : ∀ n, n ≤ acc.length → (∀ i, n ≤ i → i < acc.length → mLt x (acc.getD i []) = true) → (posAt mLt [] x acc n = 0 ∨ mLt x (acc.getD (posAt mLt [] x acc n - 1) []) = false) ∧ ∀ i, posAt mLt [] x acc n ≤ i → i < acc.length → mLt x (acc.getD i []) = true := by
      intro n
      induction n with
      | zero => intro _ h; exact ⟨.inl rfl, h⟩
      | succ n ih =>
        intro hn h
        unfold posAt
        cases hc : mLt x (acc.getD n []) with
        | true =>
          rw [if_pos rfl]
          refine ih (by omega) fun i h1 h2 => ?_
          rcases Nat.lt_or_ge n i with h3 | h3
          · exact h i (by omega) h2
          · have : i = n := by omega
            subst this
            exact hc
        | false =>
          rw [if_neg (by simp)]
          exact ⟨.inr hc, h⟩
    obtain ⟨k1, k2⟩ := key acc.length (Nat.le_refl _) (fun i h1 h2 => by omega)
    have hp := posAt_le mLt [] x acc acc.length
    unfold ins
    refine srt_ins ha (fun i h1 h2 => ?_) (fun i h1 h2 => .inl (k2 i h1 h2))
    rcases k1 with k1 | k1
    · omega
    · have hle := ha.le (i := i) (j := posAt mLt [] x acc acc.length - 1) (by omega) (by omega)
      exact lex_of (mLt_ntr hx (hok _ (getD_mem (by omega))) (hok _ (getD_mem h2)) k1 hle) (hix _ (getD_mem h2))
  have key : ∀ n, ∀ l : List (List Int), l.length = n → (∀ x ∈ l, mOk x) → l.Pairwise (fun x y => mIx x < mIx y) → Srt (isort mLt [] l) := by
    intro n
    induction n with
    | zero => intro l h _ _; rw [List.length_eq_zero_iff.1 h]; exact List.Pairwise.nil
    | succ n ih =>
      intro l hl hok hp
      have h0 : l ≠ [] := by intro e; subst e; simp at hl
      have e := List.dropLast_concat_getLast h0
      rw [← e] at hok hp ⊢
      obtain ⟨p1, _, p3⟩ := List.pairwise_append.1 hp
      rw [isort_snoc]
      have hm : ∀ y, y ∈ isort mLt [] l.dropLast ↔ y ∈ l.dropLast := fun y => (isort_perm _ _ _).mem_iff
      refine hins _ _ (ih _ (by simp [hl]) (fun x hx => hok x (by simp [hx])) p1) (fun y hy => hok y (by simp [(hm y).1 hy])) (hok _ (by simp)) (fun y hy => p3 y ((hm y).1 hy) _ (by simp))
  exact fun l => key l.length l rfl
theorem at_mid {α : Type} {z : α} {u v w : List α} {i : Nat} (h : i < v.length) : (u ++ v ++ w).getD (u.length + i) z = v.getD i z := by
  rw [List.getD_eq_getElem?_getD, List.append_assoc, List.getElem?_append_right (by omega), List.getElem?_append_left (by omega), List.getD_eq_getElem?_getD]
  congr 2
  omega
theorem swap2' {α : Type} {u w : List α} {p q z : α} : ((u ++ p :: q :: w).set u.length q).set (u.length + 1) p = u ++ q :: p :: w := by
  rw [List.set_append_right _ _ (by omega), List.set_append_right _ _ (by omega)]
  simp
theorem half (i j : Nat) (h : i + j ≤ 1000000) : W (ishr (IntKind.wrap .u64 (W ((i : Int) + (j : Int)))) 1) = (((i + j) / 2 : Nat) : Int) := by
  rw [w64 (x := (i : Int) + (j : Int)) (by omega) (by omega)]
  have e : IntKind.wrap .u64 ((i : Int) + (j : Int)) = ((i + j : Nat) : Int) := by
    simp [IntKind.wrap, IntKind.bits, IntKind.signed]
    omega
  rw [e]
  show W (Int.fdiv ((i + j : Nat) : Int) (2 ^ (1 : Int).toNat)) = _
  rw [show (2 : Int) ^ (1 : Int).toNat = 2 from rfl, Int.fdiv_eq_ediv_of_nonneg _ (by omega), w64 (by omega) (by omega)]
  omega
theorem swapAt {α : Type} {z : α} {u v w : List α} {p q : α} : (u ++ p :: v ++ q :: w).getD u.length z = p ∧ (u ++ p :: v ++ q :: w).getD (u.length + 1 + v.length) z = q ∧ ((u ++ p :: v ++ q :: w).set u.length q).set (u.length + 1 + v.length) p = u ++ q :: v ++ p :: w := by
  refine ⟨?_, ?_, ?_⟩
  · simp [List.getD_eq_getElem?_getD]
  · rw [List.getD_eq_getElem?_getD, List.getElem?_append_right (by simp; omega)]
    have e : u.length + 1 + v.length - (u ++ p :: v).length = 0 := by simp; omega
    rw [e]
    rfl
  · have e1 : (u ++ p :: v ++ q :: w).set u.length q = u ++ q :: v ++ q :: w := by
      rw [List.append_assoc, List.set_append_right _ _ (by omega)]
      simp
    rw [e1, List.set_append_right _ _ (by simp; omega)]
    have e : u.length + 1 + v.length - (u ++ q :: v).length = 0 := by simp; omega
    rw [e]
    simp
theorem swapRange_run (p X q Y s : List (List Int)) (hXY : X.length = Y.length) (hl : (p ++ X ++ q ++ Y ++ s).length ≤ 1000000) :
    Ev (fun k => qazz.f k (p ++ X ++ q ++ Y ++ s) (p.length : Int) ((p.length + X.length + q.length : Nat) : Int) (X.length : Int)) (p ++ Y ++ q ++ X ++ s) := by
  have key : ∀ (d i : Nat), i + d = X.length → Ev (fun k => qazz.l0 k (p.length : Int) ((p.length + X.length + q.length : Nat) : Int) (X.length : Int) (i : Int) (p ++ (Y.take i ++ X.drop i) ++ q ++ (X.take i ++ Y.drop i) ++ s)) (p ++ Y ++ q ++ X ++ s) := by
    intro d
    induction d with
    | zero =>
      intro i hi
      rw [List.take_of_length_le (by omega), List.take_of_length_le (by omega), List.drop_eq_nil_of_le (by omega), List.drop_eq_nil_of_le (by omega)]
      refine qazz.v0 ?_
      simp (disch := omega) only [S, List.append_nil]
      exact Ev.now _
    | succ d ih =>
      intro i hi
      have h := ih (i + 1) (by omega)
      rw [take_snoc' [] (show i < X.length by omega), take_snoc' [] (show i < Y.length by omega)] at h
      have hdX := drop_cons [] (show i < X.length by omega)
      have hdY := drop_cons [] (show i < Y.length by omega)
      obtain ⟨s1, s2, s3⟩ := swapAt (z := ([] : List Int)) (u := p ++ Y.take i) (v := X.drop (i + 1) ++ q ++ X.take i) (w := Y.drop (i + 1) ++ s) (p := X.getD i []) (q := Y.getD i [])
      have e1 : p ++ (Y.take i ++ X.drop i) ++ q ++ (X.take i ++ Y.drop i) ++ s = p ++ Y.take i ++ X.getD i [] :: (X.drop (i + 1) ++ q ++ X.take i) ++ Y.getD i [] :: (Y.drop (i + 1) ++ s) := by rw [hdX, hdY]; simp
      have e2 : p ++ (Y.take i ++ [Y.getD i []] ++ X.drop (i + 1)) ++ q ++ (X.take i ++ [X.getD i []] ++ Y.drop (i + 1)) ++ s = p ++ Y.take i ++ Y.getD i [] :: (X.drop (i + 1) ++ q ++ X.take i) ++ X.getD i [] :: (Y.drop (i + 1) ++ s) := by simp
      rw [e2] at h
      rw [e1]
      have a1 : (p ++ Y.take i).length = p.length + i := by simp; omega
      have a2 : (p ++ Y.take i).length + 1 + (X.drop (i + 1) ++ q ++ X.take i).length = p.length + X.length + q.length + i := by simp; omega
      rw [a2] at s2 s3
      rw [a1] at s1 s3
      have hL : (p ++ Y.take i ++ X.getD i [] :: (X.drop (i + 1) ++ q ++ X.take i) ++ Y.getD i [] :: (Y.drop (i + 1) ++ s)).length = p.length + X.length + q.length + Y.length + s.length := by simp; omega
      have hl' : p.length + X.length + q.length + Y.length + s.length ≤ 1000000 := by simp at hl; omega
      generalize p ++ Y.take i ++ X.getD i [] :: (X.drop (i + 1) ++ q ++ X.take i) ++ Y.getD i [] :: (Y.drop (i + 1) ++ s) = L at *
      have hL2 : (L.set (p.length + i) (Y.getD i [])).length = L.length := List.length_set
      have w1 : W (((p.length + X.length + q.length : Nat) : Int) + (i : Int)) = ((p.length + X.length + q.length + i : Nat) : Int) := by rw [w64 (by omega) (by omega)]; omega
      have w2 : W ((p.length : Int) + (i : Int)) = ((p.length + i : Nat) : Int) := by rw [w64 (by omega) (by omega)]; omega
      refine qazz.v0 ?_
      simp only [w1, w2]
      simp (disch := omega) only [S, s1, s2]
      rw [s3]
      exact h
  exact qazz.v (by simpa using key X.length 0 (by omega))
theorem rotate_run : ∀ (N : Nat) (p U V s : List (List Int)), U.length + V.length ≤ N → 0 < U.length → 0 < V.length → (p ++ U ++ V ++ s).length ≤ 1000000 →
    Ev (fun k => qbcz.l0 k ((p.length + U.length : Nat) : Int) (U.length : Int) (V.length : Int) (p ++ U ++ V ++ s)) (p ++ V ++ U ++ s) := by
  intro N
  induction N with
  | zero => intro p U V s h h0 _ _; omega
  | succ N ih =>
    intro p U V s hN hU hV hl
    have hl' : p.length + U.length + V.length + s.length ≤ 1000000 := by simp at hl; omega
    refine qbcz.v0 ?_
    by_cases h1 : U.length = V.length
    · have w1 : W (((p.length + U.length : Nat) : Int) - (U.length : Int)) = (p.length : Int) := by rw [w64 (by omega) (by omega)]; omega
      simp only [w1]
      simp (disch := omega) only [S]
      have h := swapRange_run p U [] V s h1 (by simpa using hl)
      simp only [List.append_nil, List.length_nil, Nat.add_zero] at h
      exact Ev.bind h (Ev.now _)
    · by_cases h2 : V.length < U.length
      · have hU' : U = U.take V.length ++ U.drop V.length := (List.take_append_drop _ _).symm
        have l1 : (U.take V.length).length = V.length := by rw [List.length_take]; omega
        have l2 : (U.drop V.length).length = U.length - V.length := by rw [List.length_drop]
        have w1 : W (((p.length + U.length : Nat) : Int) - (U.length : Int)) = (p.length : Int) := by rw [w64 (by omega) (by omega)]; omega
        have w2 : W ((U.length : Int) - (V.length : Int)) = ((U.length - V.length : Nat) : Int) := by rw [w64 (by omega) (by omega)]; omega
        simp only [w1, w2]
        simp (disch := omega) only [S]
        have h := swapRange_run p (U.take V.length) (U.drop V.length) V s l1 (by rw [List.append_assoc p (U.take _), List.take_append_drop]; exact hl)
        rw [l1, show p.length + V.length + (U.drop V.length).length = p.length + U.length by omega, List.append_assoc p (U.take _), List.take_append_drop] at h
        refine Ev.bind h ?_
        have g := ih (p ++ V) (U.drop V.length) (U.take V.length) s (by omega) (by omega) (by omega) (by simp; omega)
        rw [l1, l2, show (p ++ V).length + (U.length - V.length) = p.length + U.length by simp; omega] at g
        rw [show p ++ V ++ U ++ s = p ++ V ++ U.take V.length ++ U.drop V.length ++ s by rw [List.append_assoc (p ++ V) (U.take _), List.take_append_drop]]
        exact g
      · have hV' : V = V.take (V.length - U.length) ++ V.drop (V.length - U.length) := (List.take_append_drop _ _).symm
        have l1 : (V.take (V.length - U.length)).length = V.length - U.length := by rw [List.length_take]; omega
        have l2 : (V.drop (V.length - U.length)).length = U.length := by rw [List.length_drop]; omega
        have w1 : W (((p.length + U.length : Nat) : Int) - (U.length : Int)) = (p.length : Int) := by rw [w64 (by omega) (by omega)]; omega
        have w2 : W (W (((p.length + U.length : Nat) : Int) + (V.length : Int)) - (U.length : Int)) = ((p.length + V.length : Nat) : Int) := by rw [w64 (x := ((p.length + U.length : Nat) : Int) + (V.length : Int)) (by omega) (by omega), w64 (by omega) (by omega)]; omega
        have w3 : W ((V.length : Int) - (U.length : Int)) = ((V.length - U.length : Nat) : Int) := by rw [w64 (by omega) (by omega)]; omega
        simp only [w1, w2, w3]
        simp (disch := omega) only [S]
        have h := swapRange_run p U (V.take (V.length - U.length)) (V.drop (V.length - U.length)) s l2.symm (by rw [List.append_assoc (p ++ U) (V.take _), List.take_append_drop]; exact hl)
        rw [show p.length + U.length + (V.take (V.length - U.length)).length = p.length + V.length by omega, List.append_assoc (p ++ U) (V.take _), List.take_append_drop] at h
        refine Ev.bind h ?_
        have g := ih p (V.drop (V.length - U.length)) (V.take (V.length - U.length)) (U ++ s) (by omega) (by omega) (by omega) (by simp; omega)
        rw [l1, l2] at g
        have e1 : p ++ V.drop (V.length - U.length) ++ V.take (V.length - U.length) ++ U ++ s = p ++ V.drop (V.length - U.length) ++ V.take (V.length - U.length) ++ (U ++ s) := by simp
        have e2 : p ++ V ++ U ++ s = p ++ V.take (V.length - U.length) ++ V.drop (V.length - U.length) ++ (U ++ s) := by
          rw [List.append_assoc p (V.take _), List.take_append_drop]
          simp
        rw [e1, e2]
        exact g
theorem insAt_mid (B : List (List Int)) (x : List Int) (n : Nat) (hn : n < B.length) : insAt B x n = B.take n ++ x :: B.getD n [] :: B.drop (n + 1) ∧ insAt B x (n + 1) = B.take n ++ B.getD n [] :: x :: B.drop (n + 1) := by
  unfold insAt
  refine ⟨by rw [drop_cons [] hn], ?_⟩
  rw [take_snoc' [] hn]
  simp
theorem move_right (pre B post : List (List Int)) (x : List Int) (t : Nat) (ht : t ≤ B.length) (hl : pre.length + B.length + post.length + 1 ≤ 1000000) : ∀ (d n : Nat), n + d = t →
    Ev (fun k => qbaz.l3 k ((pre.length + 1 + t : Nat) : Int) ((pre.length + n : Nat) : Int) (pre ++ insAt B x n ++ post)) (pre ++ insAt B x t ++ post) := by
  intro d
  induction d with
  | zero =>
    intro n hn
    rw [show t = n by omega]
    have w1 : W (((pre.length + 1 + n : Nat) : Int) - 1) = ((pre.length + n : Nat) : Int) := by rw [w64 (by omega) (by omega)]; omega
    refine qbaz.v3 ?_
    simp only [w1]
    simp (disch := omega) only [S]
    exact Ev.now _
  | succ d ih =>
    intro n hn
    have h := ih (n + 1) (by omega)
    obtain ⟨e1, e2⟩ := insAt_mid B x n (by omega)
    have hu : (pre ++ B.take n).length = pre.length + n := by simp; omega
    obtain ⟨s1, s2, _⟩ := swap2 (u := pre ++ B.take n) (w := B.drop (n + 1) ++ post) (p := x) (q := B.getD n []) (z := ([] : List Int))
    have s3 := swap2' (u := pre ++ B.take n) (w := B.drop (n + 1) ++ post) (p := x) (q := B.getD n []) (z := ([] : List Int))
    rw [hu] at s1 s2 s3
    have e3 : pre ++ insAt B x n ++ post = pre ++ B.take n ++ x :: B.getD n [] :: (B.drop (n + 1) ++ post) := by rw [e1]; simp
    have e4 : pre ++ insAt B x (n + 1) ++ post = pre ++ B.take n ++ B.getD n [] :: x :: (B.drop (n + 1) ++ post) := by rw [e2]; simp
    have hL : (pre ++ B.take n ++ x :: B.getD n [] :: (B.drop (n + 1) ++ post)).length = pre.length + B.length + post.length + 1 := by simp; omega
    rw [e4] at h
    rw [e3]
    generalize pre ++ B.take n ++ x :: B.getD n [] :: (B.drop (n + 1) ++ post) = L at *
    have hL2 : (L.set (pre.length + n) (B.getD n [])).length = L.length := List.length_set
    have w1 : W (((pre.length + 1 + t : Nat) : Int) - 1) = ((pre.length + t : Nat) : Int) := by rw [w64 (by omega) (by omega)]; omega
    have w2 : W (((pre.length + n : Nat) : Int) + 1) = ((pre.length + n + 1 : Nat) : Int) := by rw [w64 (by omega) (by omega)]; omega
    refine qbaz.v3 ?_
    simp only [w1, w2]
    simp (disch := omega) only [S, s1, s2]
    rw [s3]
    exact h
theorem move_left (pre A post : List (List Int)) (x : List Int) (t : Nat) (hl : pre.length + A.length + post.length + 1 ≤ 1000000) : ∀ (d n : Nat), t + d = n → n ≤ A.length →
    Ev (fun k => qbaz.l4 k ((pre.length + t : Nat) : Int) ((pre.length + n : Nat) : Int) (pre ++ insAt A x n ++ post)) (pre ++ insAt A x t ++ post) := by
  intro d
  induction d with
  | zero =>
    intro n hn hA
    rw [show n = t by omega]
    refine qbaz.v4 ?_
    have c : iGt ((pre.length + t : Nat) : Int) ((pre.length + t : Nat) : Int) = false := decide_eq_false (by omega)
    simp only [c, Bool.false_eq_true, if_false]
    exact Ev.now _
  | succ d ih =>
    intro n hn hA
    obtain ⟨m, rfl⟩ : ∃ m, n = m + 1 := ⟨n - 1, by omega⟩
    have h := ih m (by omega) (by omega)
    obtain ⟨e1, e2⟩ := insAt_mid A x m (by omega)
    have hu : (pre ++ A.take m).length = pre.length + m := by simp; omega
    obtain ⟨s1, s2, s3⟩ := swap2 (u := pre ++ A.take m) (w := A.drop (m + 1) ++ post) (p := A.getD m []) (q := x) (z := ([] : List Int))
    rw [hu] at s1 s2 s3
    have e3 : pre ++ insAt A x (m + 1) ++ post = pre ++ A.take m ++ A.getD m [] :: x :: (A.drop (m + 1) ++ post) := by rw [e2]; simp
    have e4 : pre ++ insAt A x m ++ post = pre ++ A.take m ++ x :: A.getD m [] :: (A.drop (m + 1) ++ post) := by rw [e1]; simp
    have hL : (pre ++ A.take m ++ A.getD m [] :: x :: (A.drop (m + 1) ++ post)).length = pre.length + A.length + post.length + 1 := by simp; omega
    rw [e4] at h
    rw [e3]
    generalize pre ++ A.take m ++ A.getD m [] :: x :: (A.drop (m + 1) ++ post) = L at *
    have hL2 : (L.set (pre.length + m + 1) (A.getD m [])).length = L.length := List.length_set
    have w1 : W (((pre.length + (m + 1) : Nat) : Int) - 1) = ((pre.length + m : Nat) : Int) := by rw [w64 (by omega) (by omega)]; omega
    have e5 : pre.length + (m + 1) = pre.length + m + 1 := by omega
    refine qbaz.v4 ?_
    simp only [w1]
    rw [e5]
    simp (disch := omega) only [S, s1, s2]
    rw [s3]
    exact h
theorem find_right (D : List (List Int)) (a : Nat) (hP : ∀ i, i < D.length → mOk (D.getD i [])) (ha : a < D.length) (hl : D.length ≤ 100000) (lo hi : Nat) (hhi : hi ≤ D.length) : ∀ (N i j : Nat), j - i ≤ N → lo ≤ i → i ≤ j → j ≤ hi →
    (i = lo ∨ mLt (D.getD (i - 1) []) (D.getD a []) = true) → (j = hi ∨ mLt (D.getD j []) (D.getD a []) = false) →
    ∃ t, (lo ≤ t ∧ t ≤ hi) ∧ (t = lo ∨ mLt (D.getD (t - 1) []) (D.getD a []) = true) ∧ (t = hi ∨ mLt (D.getD t []) (D.getD a []) = false) ∧
      ∀ r, Ev (fun k => qbaz.l3 k (t : Int) (a : Int) D) r → Ev (fun k => qbaz.l0 k (a : Int) (i : Int) (j : Int) D) r := by
  intro N
  induction N with
  | zero =>
    intro i j h0 h1 h2 h3 h4 h5
    obtain rfl : i = j := by omega
    refine ⟨i, ⟨h1, h3⟩, h4, h5, fun r h => qbaz.v0 ?_⟩
    simp (disch := omega) only [S]
    exact h
  | succ N ih =>
    intro i j h0 h1 h2 h3 h4 h5
    by_cases hij : i < j
    · obtain ⟨c, hc1, hc2⟩ := cmpM (D.getD ((i + j) / 2) []) (D.getD a []) (hP _ (by omega)) (hP _ ha)
      have hh := half i j (by omega)
      cases hb : mLt (D.getD ((i + j) / 2) []) (D.getD a []) with
      | true =>
        obtain ⟨t, t1, t2, t3, t4⟩ := ih ((i + j) / 2 + 1) j (by omega) (by omega) (by omega) h3 (.inr (by rw [Nat.add_sub_cancel]; exact hb)) h5
        refine ⟨t, t1, t2, t3, fun r h => qbaz.v0 ?_⟩
        rw [hb] at hc2
        simp only [hh]
        simp (disch := omega) only [S]
        refine Ev.bind hc1 ?_
        simp only [hc2, if_true]
        exact t4 r h
      | false =>
        obtain ⟨t, t1, t2, t3, t4⟩ := ih i ((i + j) / 2) (by omega) h1 (by omega) (by omega) h4 (.inr hb)
        refine ⟨t, t1, t2, t3, fun r h => qbaz.v0 ?_⟩
        rw [hb] at hc2
        simp only [hh]
        simp (disch := omega) only [S]
        refine Ev.bind hc1 ?_
        simp only [hc2, Bool.false_eq_true, if_false]
        exact t4 r h
    · obtain rfl : i = j := by omega
      refine ⟨i, ⟨h1, h3⟩, h4, h5, fun r h => qbaz.v0 ?_⟩
      simp (disch := omega) only [S]
      exact h
theorem find_left (D : List (List Int)) (m : Nat) (hP : ∀ i, i < D.length → mOk (D.getD i [])) (hm : m < D.length) (hl : D.length ≤ 100000) (lo hi : Nat) (hhi : hi ≤ D.length) : ∀ (N i j : Nat), j - i ≤ N → lo ≤ i → i ≤ j → j ≤ hi →
    (i = lo ∨ mLt (D.getD m []) (D.getD (i - 1) []) = false) → (j = hi ∨ mLt (D.getD m []) (D.getD j []) = true) →
    ∃ t, (lo ≤ t ∧ t ≤ hi) ∧ (t = lo ∨ mLt (D.getD m []) (D.getD (t - 1) []) = false) ∧ (t = hi ∨ mLt (D.getD m []) (D.getD t []) = true) ∧
      ∀ r, Ev (fun k => qbaz.l4 k (t : Int) (m : Int) D) r → Ev (fun k => qbaz.l1 k (m : Int) (i : Int) (j : Int) D) r := by
  intro N
  induction N with
  | zero =>
    intro i j h0 h1 h2 h3 h4 h5
    obtain rfl : i = j := by omega
    refine ⟨i, ⟨h1, h3⟩, h4, h5, fun r h => qbaz.v1 ?_⟩
    simp (disch := omega) only [S]
    exact h
  | succ N ih =>
    intro i j h0 h1 h2 h3 h4 h5
    by_cases hij : i < j
    · obtain ⟨c, hc1, hc2⟩ := cmpM (D.getD m []) (D.getD ((i + j) / 2) []) (hP _ hm) (hP _ (by omega))
      have hh := half i j (by omega)
      cases hb : mLt (D.getD m []) (D.getD ((i + j) / 2) []) with
      | false =>
        obtain ⟨t, t1, t2, t3, t4⟩ := ih ((i + j) / 2 + 1) j (by omega) (by omega) (by omega) h3 (.inr (by rw [Nat.add_sub_cancel]; exact hb)) h5
        refine ⟨t, t1, t2, t3, fun r h => qbaz.v1 ?_⟩
        rw [hb] at hc2
        simp only [hh]
        simp (disch := omega) only [S]
        refine Ev.bind hc1 ?_
        simp only [hc2, Bool.not_false, if_true]
        exact t4 r h
      | true =>
        obtain ⟨t, t1, t2, t3, t4⟩ := ih i ((i + j) / 2) (by omega) h1 (by omega) (by omega) h4 (.inr hb)
        refine ⟨t, t1, t2, t3, fun r h => qbaz.v1 ?_⟩
        rw [hb] at hc2
        simp only [hh]
        simp (disch := omega) only [S]
        refine Ev.bind hc1 ?_
        simp only [hc2, Bool.not_true, Bool.false_eq_true, if_false]
        exact t4 r h
    · obtain rfl : i = j := by omega
      refine ⟨i, ⟨h1, h3⟩, h4, h5, fun r h => qbaz.v1 ?_⟩
      simp (disch := omega) only [S]
      exact h
noncomputable def symTail (k : Fu) (a s mid e b : Int) (D : List (List Int)) : Option (List (List Int)) :=
  if iLt a s then if iLt s mid then (qbaz.f k D a s mid).bind fun t1 =>
    if iLt mid e then if iLt e b then (qbaz.f k t1 mid e b).bind fun t2 => some t2 else some t1 else some t1
    else if iLt mid e then if iLt e b then (qbaz.f k D mid e b).bind fun t1 => some t1 else some D else some D
  else if iLt mid e then if iLt e b then (qbaz.f k D mid e b).bind fun t1 => some t1 else some D else some D
noncomputable def symMid (k : Fu) (a m b mid n s : Int) (D : List (List Int)) : Option (List (List Int)) :=
  if iLt s m then if iLt m (W (n - s)) then (qbcz.f k D s m (W (n - s))).bind fun t0 => symTail k a s mid (W (n - s)) b t0 else symTail k a s mid (W (n - s)) b D else symTail k a s mid (W (n - s)) b D
theorem find_mid (D : List (List Int)) (a m b mid n : Nat) (hP : ∀ i, i < D.length → mOk (D.getD i [])) (hl : D.length ≤ 100000) (lo hi : Nat) (hlo : n - 1 - lo < D.length) (hhi : hi ≤ D.length) (hn : hi < n) : ∀ (N i j : Nat), j - i ≤ N → lo ≤ i → i ≤ j → j ≤ hi →
    (i = lo ∨ mLt (D.getD (n - i) []) (D.getD (i - 1) []) = false) → (j = hi ∨ mLt (D.getD (n - 1 - j) []) (D.getD j []) = true) → n ≤ 1000000 →
    ∃ t, (lo ≤ t ∧ t ≤ hi) ∧ (t = lo ∨ mLt (D.getD (n - t) []) (D.getD (t - 1) []) = false) ∧ (t = hi ∨ mLt (D.getD (n - 1 - t) []) (D.getD t []) = true) ∧
      ∀ r, Ev (fun k => symMid k (a : Int) (m : Int) (b : Int) (mid : Int) (n : Int) (t : Int) D) r → Ev (fun k => qbaz.l2 k (a : Int) (m : Int) (b : Int) (mid : Int) (n : Int) (i : Int) (j : Int) ((n - 1 : Nat) : Int) D) r := by
  intro N
  have stop : ∀ i : Nat, ∀ r, Ev (fun k => symMid k (a : Int) (m : Int) (b : Int) (mid : Int) (n : Int) (i : Int) D) r → Ev (fun k => qbaz.l2 k (a : Int) (m : Int) (b : Int) (mid : Int) (n : Int) (i : Int) (i : Int) ((n - 1 : Nat) : Int) D) r := by
    intro i r h
    refine qbaz.v2 ?_
    have c : iLt (i : Int) (i : Int) = false := decide_eq_false (by omega)
    simp only [c, Bool.false_eq_true, if_false]
    exact h
  induction N with
  | zero =>
    intro i j h0 h1 h2 h3 h4 h5 hn6
    obtain rfl : i = j := by omega
    exact ⟨i, ⟨h1, h3⟩, h4, h5, stop i⟩
  | succ N ih =>
    intro i j h0 h1 h2 h3 h4 h5 hn6
    by_cases hij : i < j
    · obtain ⟨c, hc1, hc2⟩ := cmpM (D.getD (n - 1 - (i + j) / 2) []) (D.getD ((i + j) / 2) []) (hP _ (by omega)) (hP _ (by omega))
      have hh := half i j (by omega)
      have w1 : W (((n - 1 : Nat) : Int) - (((i + j) / 2 : Nat) : Int)) = ((n - 1 - (i + j) / 2 : Nat) : Int) := by rw [w64 (by omega) (by omega)]; omega
      cases hb : mLt (D.getD (n - 1 - (i + j) / 2) []) (D.getD ((i + j) / 2) []) with
      | false =>
        obtain ⟨t, t1, t2, t3, t4⟩ := ih ((i + j) / 2 + 1) j (by omega) (by omega) (by omega) h3 (.inr (by rw [Nat.add_sub_cancel, show n - ((i + j) / 2 + 1) = n - 1 - (i + j) / 2 by omega]; exact hb)) h5 hn6
        refine ⟨t, t1, t2, t3, fun r h => qbaz.v2 ?_⟩
        rw [hb] at hc2
        have hlt : iLt (i : Int) (j : Int) = true := decide_eq_true (by omega)
        have hx2 : ∀ {β : Type} (x : Option β), ix ((n - 1 - (i + j) / 2 : Nat) : Int) D x = x := fun x => S.2.1 (by omega) (by omega)
        have hx3 : ∀ {β : Type} (x : Option β), ix (((i + j) / 2 : Nat) : Int) D x = x := fun x => S.2.1 (by omega) (by omega)
        have w2 : W ((((i + j) / 2 : Nat) : Int) + 1) = (((i + j) / 2 + 1 : Nat) : Int) := by rw [w64 (by omega) (by omega)]; omega
        simp only [hh, w1, hlt, if_true, hx2, hx3, rd_nat]
        refine Ev.bind hc1 ?_
        simp only [hc2, Bool.not_false, if_true, w2]
        exact t4 r h
      | true =>
        obtain ⟨t, t1, t2, t3, t4⟩ := ih i ((i + j) / 2) (by omega) h1 (by omega) (by omega) h4 (.inr hb) hn6
        refine ⟨t, t1, t2, t3, fun r h => qbaz.v2 ?_⟩
        rw [hb] at hc2
        have hlt : iLt (i : Int) (j : Int) = true := decide_eq_true (by omega)
        have hx2 : ∀ {β : Type} (x : Option β), ix ((n - 1 - (i + j) / 2 : Nat) : Int) D x = x := fun x => S.2.1 (by omega) (by omega)
        have hx3 : ∀ {β : Type} (x : Option β), ix (((i + j) / 2 : Nat) : Int) D x = x := fun x => S.2.1 (by omega) (by omega)
        simp only [hh, w1, hlt, if_true, hx2, hx3, rd_nat]
        refine Ev.bind hc1 ?_
        simp only [hc2, Bool.not_true, Bool.false_eq_true, if_false]
        exact t4 r h
    · obtain rfl : i = j := by omega
      exact ⟨i, ⟨h1, h3⟩, h4, h5, stop i⟩
def Merged (a m b : Nat) (p A B s D : List (List Int)) : Prop := ∃ M, Ev (fun k => qbaz.f k D (a : Int) (m : Int) (b : Int)) (p ++ M ++ s) ∧ M.Perm (A ++ B) ∧ Srt M
theorem side (a m b : Nat) (p A B s D : List (List Int)) (hD : D = p ++ A ++ B ++ s) (ha : a = p.length) (hm : m = a + A.length) (hb : b = m + B.length) (hA : Srt A) (hB : Srt B) (h : 0 < A.length → 0 < B.length → Merged a m b p A B s D) :
    ∃ M, M.Perm (A ++ B) ∧ Srt M ∧ ((iLt (a : Int) (m : Int) = true ∧ iLt (m : Int) (b : Int) = true ∧ Ev (fun k => qbaz.f k D (a : Int) (m : Int) (b : Int)) (p ++ M ++ s)) ∨ ((iLt (a : Int) (m : Int) = false ∨ iLt (m : Int) (b : Int) = false) ∧ D = p ++ M ++ s)) := by
  by_cases h1 : 0 < A.length
  · by_cases h2 : 0 < B.length
    · obtain ⟨M, e, q, r⟩ := h h1 h2
      exact ⟨M, q, r, .inl ⟨decide_eq_true (by omega), decide_eq_true (by omega), e⟩⟩
    · have : B = [] := List.length_eq_zero_iff.1 (by omega)
      subst this
      exact ⟨A, by simp, hA, .inr ⟨.inr (decide_eq_false (by simp at hb; omega)), by rw [hD]; simp⟩⟩
  · have : A = [] := List.length_eq_zero_iff.1 (by omega)
    subst this
    exact ⟨B, by simp, hB, .inr ⟨.inl (decide_eq_false (by simp at hm; omega)), by rw [hD]; simp⟩⟩
theorem tail_run (N : Nat) (ih : ∀ (p A B s : List (List Int)), A.length + B.length ≤ N → 0 < A.length → 0 < B.length → Srt A → Srt B → (∀ x ∈ A, ∀ y ∈ B, mIx x < mIx y) → (∀ x ∈ p ++ A ++ B ++ s, mOk x) → (p ++ A ++ B ++ s).length ≤ 100000 → Merged p.length (p.length + A.length) (p.length + A.length + B.length) p A B s (p ++ A ++ B ++ s))
    (p A1 B1 A2 B2 s : List (List Int)) (hN1 : A1.length + B1.length ≤ N) (hN2 : A2.length + B2.length ≤ N) (hA1 : Srt A1) (hB1 : Srt B1) (hA2 : Srt A2) (hB2 : Srt B2) (hx1 : ∀ x ∈ A1, ∀ y ∈ B1, mIx x < mIx y) (hx2 : ∀ x ∈ A2, ∀ y ∈ B2, mIx x < mIx y)
    (hok : ∀ x ∈ p ++ A1 ++ B1 ++ A2 ++ B2 ++ s, mOk x) (hl : (p ++ A1 ++ B1 ++ A2 ++ B2 ++ s).length ≤ 100000)
    (a st mid e b : Nat) (ha : a = p.length) (hst : st = a + A1.length) (hmid : mid = st + B1.length) (he : e = mid + A2.length) (hb : b = e + B2.length) :
    ∃ M1 M2, M1.Perm (A1 ++ B1) ∧ M2.Perm (A2 ++ B2) ∧ Srt M1 ∧ Srt M2 ∧ Ev (fun k => symTail k (a : Int) (st : Int) (mid : Int) (e : Int) (b : Int) (p ++ A1 ++ B1 ++ A2 ++ B2 ++ s)) (p ++ M1 ++ M2 ++ s) := by
  obtain ⟨M1, p1, q1, r1⟩ := side a st mid p A1 B1 (A2 ++ B2 ++ s) (p ++ A1 ++ B1 ++ A2 ++ B2 ++ s) (by simp) ha hst hmid hA1 hB1 (fun h1 h2 => by
    subst hmid hst ha
    have g := ih p A1 B1 (A2 ++ B2 ++ s) hN1 h1 h2 hA1 hB1 hx1 (fun x hx => hok x (by simpa using hx)) (by simpa using hl)
    rw [show p ++ A1 ++ B1 ++ A2 ++ B2 ++ s = p ++ A1 ++ B1 ++ (A2 ++ B2 ++ s) by simp]
    exact g)
  have hM1 : ∀ x, x ∈ M1 ↔ x ∈ A1 ∨ x ∈ B1 := fun x => by rw [p1.mem_iff, List.mem_append]
  have lM1 : M1.length = A1.length + B1.length := by rw [p1.length_eq, List.length_append]
  obtain ⟨M2, p2, q2, r2⟩ := side mid e b (p ++ M1) A2 B2 s (p ++ M1 ++ A2 ++ B2 ++ s) rfl (by simp; omega) he hb hA2 hB2 (fun h1 h2 => by
    have g := ih (p ++ M1) A2 B2 s hN2 h1 h2 hA2 hB2 hx2 (fun x hx => hok x (by
      simp only [List.mem_append, hM1] at hx ⊢
      rcases hx with (((h | h | h) | h) | h) | h
      · exact .inl (.inl (.inl (.inl (.inl h))))
      · exact .inl (.inl (.inl (.inl (.inr h))))
      · exact .inl (.inl (.inl (.inr h)))
      · exact .inl (.inl (.inr h))
      · exact .inl (.inr h)
      · exact .inr h)) (by simp at hl ⊢; omega)
    rw [show (p ++ M1).length = mid by simp; omega] at g
    rw [he, hb, he]
    exact g)
  refine ⟨M1, M2, p1, p2, q1, q2, ?_⟩
  have hE : p ++ M1 ++ (A2 ++ B2 ++ s) = p ++ M1 ++ A2 ++ B2 ++ s := by simp
  unfold symTail
  rcases r1 with ⟨c1, c2, e1⟩ | ⟨c1, e1⟩
  · simp only [c1, c2, if_true]
    refine Ev.bind e1 ?_
    rw [hE]
    rcases r2 with ⟨d1, d2, e2⟩ | ⟨d1, e2⟩
    · simp only [d1, d2, if_true]
      exact Ev.bind e2 (Ev.now _)
    · rcases d1 with d1 | d1
      · simp only [d1, Bool.false_eq_true, if_false]
        rw [e2]; exact Ev.now _
      · simp only [d1, Bool.false_eq_true, if_false]
        rw [e2]; split <;> exact Ev.now _
  · rw [e1, hE]
    have fin : Ev (fun k => if iLt (mid : Int) (e : Int) then if iLt (e : Int) (b : Int) then (qbaz.f k (p ++ M1 ++ A2 ++ B2 ++ s) (mid : Int) (e : Int) (b : Int)).bind fun t1 => some t1 else some (p ++ M1 ++ A2 ++ B2 ++ s) else some (p ++ M1 ++ A2 ++ B2 ++ s)) (p ++ M1 ++ M2 ++ s) := by
      rcases r2 with ⟨d1, d2, e2⟩ | ⟨d1, e2⟩
      · simp only [d1, d2, if_true]
        exact Ev.bind e2 (Ev.now _)
      · rcases d1 with d1 | d1
        · simp only [d1, Bool.false_eq_true, if_false]
          rw [e2]; exact Ev.now _
        · simp only [d1, Bool.false_eq_true, if_false]
          rw [e2]; split <;> exact Ev.now _
    rcases c1 with c1 | c1
    · simp only [c1, Bool.false_eq_true, if_false]
      exact fin
    · cases c0 : iLt (a : Int) (st : Int) with
      | true => simp only [c1, Bool.false_eq_true, if_false, if_true]; exact fin
      | false => simp only [Bool.false_eq_true, if_false]; exact fin
theorem symMerge_run : ∀ (N : Nat) (p A B s : List (List Int)), A.length + B.length ≤ N → 0 < A.length → 0 < B.length → Srt A → Srt B → (∀ x ∈ A, ∀ y ∈ B, mIx x < mIx y) → (∀ x ∈ p ++ A ++ B ++ s, mOk x) → (p ++ A ++ B ++ s).length ≤ 100000 → Merged p.length (p.length + A.length) (p.length + A.length + B.length) p A B s (p ++ A ++ B ++ s) := by
  intro N
  induction N with
  | zero => intro p A B s h h0; omega
  | succ N ih =>
    intro p A B s hN hA hB hsA hsB hix hok hl
    have hl' : p.length + A.length + B.length + s.length ≤ 100000 := by simp at hl; omega
    have hP : ∀ i, i < (p ++ A ++ B ++ s).length → mOk ((p ++ A ++ B ++ s).getD i []) := fun i hi => hok _ (getD_mem hi)
    have w1 : W (((p.length + A.length : Nat) : Int) - (p.length : Int)) = (A.length : Int) := by rw [w64 (by omega) (by omega)]; omega
    have w2 : W (((p.length + A.length + B.length : Nat) : Int) - ((p.length + A.length : Nat) : Int)) = (B.length : Int) := by rw [w64 (by omega) (by omega)]; omega
    have okA : ∀ i, i < A.length → mOk (A.getD i []) := fun i hi => hok _ (List.mem_append_left _ (List.mem_append_left _ (List.mem_append_right _ (getD_mem hi))))
    have okB : ∀ i, i < B.length → mOk (B.getD i []) := fun i hi => hok _ (List.mem_append_left _ (List.mem_append_right _ (getD_mem hi)))
    have dA : ∀ i, i < A.length → (p ++ A ++ B ++ s).getD (p.length + i) [] = A.getD i [] := fun i hi => by rw [List.append_assoc (p ++ A)]; exact at_mid hi
    have dB : ∀ i, i < B.length → (p ++ A ++ B ++ s).getD (p.length + A.length + i) [] = B.getD i [] := fun i hi => by
      have := at_mid (z := ([] : List Int)) (u := p ++ A) (v := B) (w := s) hi
      rwa [List.length_append] at this
    by_cases h1 : A.length = 1
    · obtain ⟨x, rfl⟩ := List.length_eq_one_iff.1 h1
      have hx : (p ++ [x] ++ B ++ s).getD p.length [] = x := by simp
      obtain ⟨t, ⟨t1, t2⟩, t3, t4, t5⟩ := find_right (p ++ [x] ++ B ++ s) p.length hP (by simp) hl (p.length + 1) (p.length + 1 + B.length) (by simp; omega) _ (p.length + 1) (p.length + 1 + B.length) (Nat.le_refl _) (Nat.le_refl _) (by omega) (Nat.le_refl _) (.inl rfl) (.inl rfl)
      obtain ⟨n, rfl⟩ : ∃ n, t = p.length + 1 + n := ⟨t - (p.length + 1), by omega⟩
      rw [hx] at t3 t4
      have q3 : n = 0 ∨ mLt (B.getD (n - 1) []) x = true := by
        rcases t3 with h | h
        · exact .inl (by omega)
        · cases n with
          | zero => exact .inl rfl
          | succ n =>
            have e := dB n (by omega)
            rw [show p.length + [x].length + n = p.length + 1 + (n + 1) - 1 by simp] at e
            rw [e] at h
            exact .inr h
      have q4 : n = B.length ∨ mLt (B.getD n []) x = false := by
        rcases t4 with h | h
        · exact .inl (by omega)
        · by_cases hn : n < B.length
          · have e := dB n hn
            rw [show p.length + [x].length + n = p.length + 1 + n by simp] at e
            rw [e] at h
            exact .inr h
          · exact .inl (by omega)
      refine ⟨insAt B x n, qbaz.v ?_, ?_, ?_⟩
      · simp only [w1, w2]
        simp (disch := omega) only [S, h1]
        have hm := move_right p B s x n (by omega) (by simp at hl; omega) n 0 (by omega)
        have e0 : p ++ insAt B x 0 ++ s = p ++ [x] ++ B ++ s := by simp [insAt]
        rw [e0] at hm
        exact t5 _ hm
      · exact (insAt_perm B x n).trans List.perm_append_comm
      · refine srt_ins hsB (fun i i1 i2 => ?_) (fun i i1 i2 => ?_)
        · rcases q3 with q3 | q3
          · omega
          · exact .inl (mLt_in (okB _ (by omega)) (okA 0 (by simp)) (okB i i2) (okA 0 (by simp)) q3 (hsB.le (by omega) (by omega)) (mLt_irr _))
        · rcases q4 with q4 | q4
          · omega
          · exact lex_of (mLt_ntr (okB i i2) (okB n (by omega)) (okA 0 (by simp)) (hsB.le i1 i2) q4) (hix x (by simp) _ (getD_mem i2))
    · by_cases h2 : B.length = 1
      · obtain ⟨x, rfl⟩ := List.length_eq_one_iff.1 h2
        have hx : (p ++ A ++ [x] ++ s).getD (p.length + A.length) [] = x := by simp
        obtain ⟨t, ⟨t1, t2⟩, t3, t4, t5⟩ := find_left (p ++ A ++ [x] ++ s) (p.length + A.length) hP (by simp) hl p.length (p.length + A.length) (by simp) _ p.length (p.length + A.length) (Nat.le_refl _) (Nat.le_refl _) (by omega) (Nat.le_refl _) (.inl rfl) (.inl rfl)
        obtain ⟨n, rfl⟩ : ∃ n, t = p.length + n := ⟨t - p.length, by omega⟩
        rw [hx] at t3 t4
        have q3 : n = 0 ∨ mLt x (A.getD (n - 1) []) = false := by
          rcases t3 with h | h
          · exact .inl (by omega)
          · cases n with
            | zero => exact .inl rfl
            | succ n =>
              have e := dA n (by omega)
              rw [show p.length + (n + 1) - 1 = p.length + n by omega, e] at h
              exact .inr h
        have q4 : n = A.length ∨ mLt x (A.getD n []) = true := by
          rcases t4 with h | h
          · exact .inl (by omega)
          · by_cases hn : n < A.length
            · rw [dA n hn] at h
              exact .inr h
            · exact .inl (by omega)
        refine ⟨insAt A x n, qbaz.v ?_, ?_, ?_⟩
        · simp only [w1, w2]
          simp (disch := omega) only [S, h2]
          have hm := move_left p A s x n (by simp at hl; omega) (A.length - n) A.length (by omega) (Nat.le_refl _)
          have e0 : p ++ insAt A x A.length ++ s = p ++ A ++ [x] ++ s := by simp [insAt]
          rw [e0] at hm
          exact t5 _ hm
        · exact insAt_perm A x n
        · refine srt_ins hsA (fun i i1 i2 => ?_) (fun i i1 i2 => ?_)
          · rcases q3 with q3 | q3
            · omega
            · exact lex_of (mLt_ntr (okB 0 (by simp)) (okA _ (by omega)) (okA i i2) q3 (hsA.le (by omega) (by omega))) (hix _ (getD_mem i2) _ (by simp))
          · rcases q4 with q4 | q4
            · omega
            · exact .inl (mLt_in (okB 0 (by simp)) (okA n (by omega)) (okB 0 (by simp)) (okA i i2) q4 (mLt_irr _) (hsA.le i1 i2))
      · -- the general case
        obtain ⟨mid, hmid⟩ : ∃ mid, mid = (p.length + (p.length + A.length + B.length)) / 2 := ⟨_, rfl⟩
        have hh : W (ishr (IntKind.wrap .u64 (W ((p.length : Int) + ((p.length + A.length + B.length : Nat) : Int)))) 1) = (mid : Int) := by rw [half _ _ (by omega), hmid]
        have wn : W ((mid : Int) + ((p.length + A.length : Nat) : Int)) = ((mid + (p.length + A.length) : Nat) : Int) := by rw [w64 (by omega) (by omega)]; omega
        have wq : W (((mid + (p.length + A.length) : Nat) : Int) - 1) = ((mid + (p.length + A.length) - 1 : Nat) : Int) := by rw [w64 (by omega) (by omega)]; omega
        -- where to cut: the place that the search finds
        have cut : ∀ t, p.length ≤ t → t ≤ p.length + A.length → t ≤ mid → mid + (p.length + A.length) - t ≤ p.length + A.length + B.length →
            (t = p.length ∨ mid + (p.length + A.length) - t = p.length + A.length + B.length ∨ mLt ((p ++ A ++ B ++ s).getD (mid + (p.length + A.length) - t) []) ((p ++ A ++ B ++ s).getD (t - 1) []) = false) →
            (t = p.length + A.length ∨ t = mid ∨ mLt ((p ++ A ++ B ++ s).getD (mid + (p.length + A.length) - 1 - t) []) ((p ++ A ++ B ++ s).getD t []) = true) →
            ∃ M, M.Perm (A ++ B) ∧ Srt M ∧ Ev (fun k => symMid k (p.length : Int) ((p.length + A.length : Nat) : Int) ((p.length + A.length + B.length : Nat) : Int) (mid : Int) ((mid + (p.length + A.length) : Nat) : Int) (t : Int) (p ++ A ++ B ++ s)) (p ++ M ++ s) := by
          intro t c1 c2 c3 c4 c5 c6
          obtain ⟨u, rfl⟩ : ∃ u, t = p.length + u := ⟨t - p.length, by omega⟩
          obtain ⟨v, hv⟩ : ∃ v, v = mid - (p.length + u) := ⟨_, rfl⟩
          have lA1 : (A.take u).length = u := by rw [List.length_take]; omega
          have lA2 : (A.drop u).length = A.length - u := by rw [List.length_drop]
          have lB1 : (B.take v).length = v := by rw [List.length_take]; omega
          have lB2 : (B.drop v).length = B.length - v := by rw [List.length_drop]
          have tA : A.take u ++ A.drop u = A := List.take_append_drop _ _
          have tB : B.take v ++ B.drop v = B := List.take_append_drop _ _
          have mA1 : ∀ x ∈ A.take u, x ∈ A := fun x h => List.mem_of_mem_take h
          have mA2 : ∀ x ∈ A.drop u, x ∈ A := fun x h => List.mem_of_mem_drop h
          have mB1 : ∀ x ∈ B.take v, x ∈ B := fun x h => List.mem_of_mem_take h
          have mB2 : ∀ x ∈ B.drop v, x ∈ B := fun x h => List.mem_of_mem_drop h
          obtain ⟨M1, M2, p1, p2, q1, q2, r⟩ := tail_run N ih p (A.take u) (B.take v) (A.drop u) (B.drop v) s (by omega) (by omega)
            (List.Pairwise.sublist (List.take_sublist _ _) hsA) (List.Pairwise.sublist (List.take_sublist _ _) hsB) (List.Pairwise.sublist (List.drop_sublist _ _) hsA) (List.Pairwise.sublist (List.drop_sublist _ _) hsB)
            (fun x hx y hy => hix x (mA1 x hx) y (mB1 y hy)) (fun x hx y hy => hix x (mA2 x hx) y (mB2 y hy))
            (fun x hx => hok x (by
              simp only [List.mem_append] at hx ⊢
              rcases hx with ((((h | h) | h) | h) | h) | h
              · exact .inl (.inl (.inl h))
              · exact .inl (.inl (.inr (mA1 x h)))
              · exact .inl (.inr (mB1 x h))
              · exact .inl (.inl (.inr (mA2 x h)))
              · exact .inl (.inr (mB2 x h))
              · exact .inr h))
            (by simp only [List.length_append]; omega) p.length (p.length + u) mid (mid + (p.length + A.length) - (p.length + u)) (p.length + A.length + B.length) rfl (by omega) (by omega) (by omega) (by omega)
          have pe : (M1 ++ M2).Perm (A ++ B) := by
            have h := p1.append p2
            refine h.trans ?_
            have e1 : A ++ B = A.take u ++ (A.drop u ++ B.take v) ++ B.drop v := by
              rw [← List.append_assoc, tA, List.append_assoc, tB]
            rw [e1, List.append_assoc, List.append_assoc]
            refine List.Perm.append_left _ ?_
            rw [← List.append_assoc]
            exact List.perm_append_comm.append_right _
          refine ⟨M1 ++ M2, pe, List.pairwise_append.2 ⟨q1, q2, fun x hx y hy => ?_⟩, ?_⟩
          · rcases List.mem_append.1 (p1.mem_iff.1 hx) with hx | hx
            · rcases List.mem_append.1 (p2.mem_iff.1 hy) with hy | hy
              · obtain ⟨i, i1, i2, rfl⟩ := mem_take_at (z := []) hx
                obtain ⟨j, j1, j2, rfl⟩ := mem_drop_at (z := []) hy
                exact hsA.at (by omega) j2
              · obtain ⟨i, i1, i2, rfl⟩ := mem_take_at (z := []) hx
                obtain ⟨j, j1, j2, rfl⟩ := mem_drop_at (z := []) hy
                rcases c5 with c5 | c5 | c5
                · omega
                · omega
                · have e1 : mid + (p.length + A.length) - (p.length + u) = p.length + A.length + v := by omega
                  have e2 : p.length + u - 1 = p.length + (u - 1) := by omega
                  rw [e1, e2, dA (u - 1) (by omega), dB v (by omega)] at c5
                  have g1 := mLt_ntr (okB v (by omega)) (okA (u - 1) (by omega)) (okA i i2) c5 (hsA.le (by omega) (by omega))
                  have g2 := mLt_ntr (okB j j2) (okB v (by omega)) (okA i i2) (hsB.le j1 j2) g1
                  exact lex_of g2 (hix _ (getD_mem i2) _ (getD_mem j2))
            · rcases List.mem_append.1 (p2.mem_iff.1 hy) with hy | hy
              · obtain ⟨i, i1, i2, rfl⟩ := mem_take_at (z := []) hx
                obtain ⟨j, j1, j2, rfl⟩ := mem_drop_at (z := []) hy
                rcases c6 with c6 | c6 | c6
                · omega
                · omega
                · have e1 : mid + (p.length + A.length) - 1 - (p.length + u) = p.length + A.length + (v - 1) := by omega
                  rw [e1, dA u (by omega), dB (v - 1) (by omega)] at c6
                  exact .inl (mLt_in (okB (v - 1) (by omega)) (okA u (by omega)) (okB i i2) (okA j j2) c6 (hsB.le (by omega) (by omega)) (hsA.le j1 j2))
              · obtain ⟨i, i1, i2, rfl⟩ := mem_take_at (z := []) hx
                obtain ⟨j, j1, j2, rfl⟩ := mem_drop_at (z := []) hy
                exact hsB.at (by omega) j2
          · have we : W (((mid + (p.length + A.length) : Nat) : Int) - ((p.length + u : Nat) : Int)) = ((mid + (p.length + A.length) - (p.length + u) : Nat) : Int) := by rw [w64 (by omega) (by omega)]; omega
            unfold symMid
            simp only [we]
            rw [← List.append_assoc] 
            have e1 : p ++ A ++ B ++ s = p ++ A.take u ++ A.drop u ++ B.take v ++ (B.drop v ++ s) := by
              rw [List.append_assoc p (A.take u), tA, ← List.append_assoc (p ++ A ++ B.take v), List.append_assoc (p ++ A) (B.take v), tB]
            by_cases k1 : u < A.length
            · by_cases k2 : 0 < v
              · have b1 : iLt ((p.length + u : Nat) : Int) ((p.length + A.length : Nat) : Int) = true := decide_eq_true (by omega)
                have b2 : iLt ((p.length + A.length : Nat) : Int) ((mid + (p.length + A.length) - (p.length + u) : Nat) : Int) = true := decide_eq_true (by omega)
                simp only [b1, b2, if_true]
                have g := rotate_run _ (p ++ A.take u) (A.drop u) (B.take v) (B.drop v ++ s) (Nat.le_refl _) (by omega) (by omega) (by simp only [List.length_append]; omega)
                rw [← e1, lA2, lB1] at g
                have hr : Ev (fun k => qbcz.f k (p ++ A ++ B ++ s) ((p.length + u : Nat) : Int) ((p.length + A.length : Nat) : Int) ((mid + (p.length + A.length) - (p.length + u) : Nat) : Int)) (p ++ A.take u ++ B.take v ++ A.drop u ++ (B.drop v ++ s)) := by
                  refine qbcz.v ?_
                  have y1 : W (((p.length + A.length : Nat) : Int) - ((p.length + u : Nat) : Int)) = ((A.length - u : Nat) : Int) := by rw [w64 (by omega) (by omega)]; omega
                  have y2 : W (((mid + (p.length + A.length) - (p.length + u) : Nat) : Int) - ((p.length + A.length : Nat) : Int)) = (v : Int) := by rw [w64 (by omega) (by omega)]; omega
                  have y3 : (p ++ A.take u).length + (A.length - u) = p.length + A.length := by rw [List.length_append]; omega
                  rw [y3] at g
                  simp only [y1, y2]
                  exact g
                refine Ev.bind hr ?_
                rw [← List.append_assoc (p ++ A.take u ++ B.take v ++ A.drop u)]
                exact r
              · have b2 : iLt ((p.length + A.length : Nat) : Int) ((mid + (p.length + A.length) - (p.length + u) : Nat) : Int) = false := decide_eq_false (by omega)
                have hv0 : v = 0 := by omega
                have e2 : p ++ A ++ B ++ s = p ++ A.take u ++ B.take v ++ A.drop u ++ B.drop v ++ s := by
                  rw [hv0]; simp only [List.take_zero, List.drop_zero, List.append_nil]; rw [List.append_assoc p (A.take u), tA]
                simp only [b2, Bool.false_eq_true, if_false]
                rw [e2]
                split <;> exact r
            · have b1 : iLt ((p.length + u : Nat) : Int) ((p.length + A.length : Nat) : Int) = false := decide_eq_false (by omega)
              have hu : A.length ≤ u := by omega
              have e2 : p ++ A ++ B ++ s = p ++ A.take u ++ B.take v ++ A.drop u ++ B.drop v ++ s := by
                rw [List.take_of_length_le hu, List.drop_eq_nil_of_le hu, List.append_nil, List.append_assoc (p ++ A) (B.take v), tB]
              simp only [b1, Bool.false_eq_true, if_false]
              rw [e2]
              exact r
        by_cases h3 : mid < p.length + A.length
        · have ws : W (((mid + (p.length + A.length) : Nat) : Int) - ((p.length + A.length + B.length : Nat) : Int)) = ((mid + (p.length + A.length) - (p.length + A.length + B.length) : Nat) : Int) := by rw [w64 (by omega) (by omega)]; omega
          obtain ⟨t, ⟨t1, t2⟩, t3, t4, t5⟩ := find_mid (p ++ A ++ B ++ s) p.length (p.length + A.length) (p.length + A.length + B.length) mid (mid + (p.length + A.length)) hP hl (mid + (p.length + A.length) - (p.length + A.length + B.length)) mid (by simp only [List.length_append]; omega) (by simp only [List.length_append]; omega) (by omega) _ (mid + (p.length + A.length) - (p.length + A.length + B.length)) mid (Nat.le_refl _) (Nat.le_refl _) (by omega) (Nat.le_refl _) (.inl rfl) (.inl rfl) (by omega)
          obtain ⟨M, z1, z2, z3⟩ := cut t (by omega) (by omega) t2 (by omega) (t3.elim (fun h => .inr (.inl (by omega))) fun h => .inr (.inr h)) (t4.elim (fun h => .inr (.inl h)) fun h => .inr (.inr h))
          refine ⟨M, qbaz.v ?_, z1, z2⟩
          have b3 : iGt ((p.length + A.length : Nat) : Int) (mid : Int) = true := decide_eq_true (by omega)
          have b1 : (((A.length : Nat) : Int) == 1) = false := by rw [beq_eq_false_iff_ne]; omega
          have b2 : (((B.length : Nat) : Int) == 1) = false := by rw [beq_eq_false_iff_ne]; omega
          simp only [w1, w2, hh, wn, wq, ws, b1, b2, b3, Bool.false_eq_true, if_false, if_true]
          exact t5 _ z3
        · obtain ⟨t, ⟨t1, t2⟩, t3, t4, t5⟩ := find_mid (p ++ A ++ B ++ s) p.length (p.length + A.length) (p.length + A.length + B.length) mid (mid + (p.length + A.length)) hP hl p.length (p.length + A.length) (by simp only [List.length_append]; omega) (by simp only [List.length_append]; omega) (by omega) _ p.length (p.length + A.length) (Nat.le_refl _) (Nat.le_refl _) (by omega) (Nat.le_refl _) (.inl rfl) (.inl rfl) (by omega)
          obtain ⟨M, z1, z2, z3⟩ := cut t t1 t2 (by omega) (by omega) (t3.elim .inl fun h => .inr (.inr h)) (t4.elim .inl fun h => .inr (.inr h))
          refine ⟨M, qbaz.v ?_, z1, z2⟩
          have b3 : iGt ((p.length + A.length : Nat) : Int) (mid : Int) = false := decide_eq_false (by omega)
          have b1 : (((A.length : Nat) : Int) == 1) = false := by rw [beq_eq_false_iff_ne]; omega
          have b2 : (((B.length : Nat) : Int) == 1) = false := by rw [beq_eq_false_iff_ne]; omega
          simp only [w1, w2, hh, wn, wq, b1, b2, b3, Bool.false_eq_true, if_false]
          exact t5 _ z3
theorem insM (pre blk post : List (List Int)) (hP : ∀ x ∈ blk, mOk x) (hl : pre.length + blk.length + post.length ≤ 1000000) :
    Ev (fun k => qatz.f k (pre ++ blk ++ post) (pre.length : Int) ((pre.length + blk.length : Nat) : Int)) (pre ++ isort mLt [] blk ++ post) := by
  refine qatz.v ?_
  have h := ins_run cmpM (F0 := fun k a b i arr => qatz.l0 k a b i arr) (F1 := fun k a b i j arr => qatz.l1 k a b i j arr)
    qatz.v0 qatz.v1 pre blk post hP (by omega)
  rw [show W ((pre.length : Int) + 1) = ((pre.length + 1 : Nat) : Int) by rw [w64 (by omega) (by omega)]; omega]
  exact h
theorem stable_run {l : List (List Int)} (hl : l.length ≤ 39) (hok : ∀ x ∈ l, mOk x) (hix : l.Pairwise (fun x y => mIx x < mIx y)) : Ev (fun k => qaxz.f k l) (isort mLt [] l) := by
  refine qaxz.v (Ev.bind (v := isort mLt [] l) (qbdz.v ?_) (Ev.now _))
  simp only [S]
  by_cases h20 : l.length < 20
  · refine qbdz.v0 ?_
    simp (disch := omega) only [S]
    have h := insM [] l [] hok (by simp; omega)
    simp only [List.length_nil, Nat.zero_add, List.nil_append, List.append_nil] at h
    refine Ev.bind h (qbdz.v1 ?_)
    simp (disch := omega) only [S]
    exact Ev.now _
  · have lA : (l.take 20).length = 20 := by rw [List.length_take]; omega
    have lB : (l.drop 20).length = l.length - 20 := by rw [List.length_drop]
    have tAB : l.take 20 ++ l.drop 20 = l := List.take_append_drop _ _
    have oA : ∀ x ∈ l.take 20, mOk x := fun x h => hok x (List.mem_of_mem_take h)
    have oB : ∀ x ∈ l.drop 20, mOk x := fun x h => hok x (List.mem_of_mem_drop h)
    have sA := srt_isort (l.take 20) oA (List.Pairwise.sublist (List.take_sublist _ _) hix)
    have sB := srt_isort (l.drop 20) oB (List.Pairwise.sublist (List.drop_sublist _ _) hix)
    have pA := isort_perm mLt [] (l.take 20)
    have pB := isort_perm mLt [] (l.drop 20)
    have kA := isort_len mLt [] (l.take 20)
    have kB := isort_len mLt [] (l.drop 20)
    have i1 := insM [] (l.take 20) (l.drop 20) oA (by simp; omega)
    have i2 := insM (isort mLt [] (l.take 20)) (l.drop 20) [] oB (by simp only [List.length_nil]; omega)
    rw [lA] at i1 kA
    rw [kA, lB] at i2
    rw [lB] at kB
    rw [List.append_nil] at i2
    rw [show 20 + (l.length - 20) = l.length by omega, List.append_nil] at i2
    rw [List.nil_append, tAB, List.nil_append] at i1
    have fin : Ev (fun k => qbdz.l1 k (l.length : Int) 20 (isort mLt [] (l.take 20) ++ isort mLt [] (l.drop 20))) (isort mLt [] l) := by
      have okI : ∀ x ∈ isort mLt [] l, mOk x := fun x h => hok x ((isort_perm mLt [] l).mem_iff.1 h)
      have perm : (isort mLt [] (l.take 20) ++ isort mLt [] (l.drop 20)).Perm l := by
        have h := pA.append pB
        rwa [tAB] at h
      refine qbdz.v1 ?_
      by_cases he : l.length = 20
      · simp (disch := omega) only [S]
        have e0 : l.drop 20 = [] := List.drop_eq_nil_of_le (by omega)
        have e1 : l.take 20 = l := List.take_of_length_le (by omega)
        rw [e0, e1]
        rw [show isort mLt [] [] = [] from rfl, List.append_nil]
        exact Ev.now _
      · have w40 : W (2 * 20) = 40 := by decide
        simp only [w40]
        simp (disch := omega) only [S]
        refine qbdz.v2 ?_
        have w20 : W (0 + 20) = 20 := by decide
        have w3 : W (20 * 2) = 40 := by decide
        simp only [w20, w3]
        simp (disch := omega) only [S]
        obtain ⟨M, m1, m2, m3⟩ := symMerge_run _ [] (isort mLt [] (l.take 20)) (isort mLt [] (l.drop 20)) [] (Nat.le_refl _) (by omega) (by omega) sA sB
          (fun x hx y hy => by
            have hx := pA.mem_iff.1 hx
            have hy := pB.mem_iff.1 hy
            rw [← tAB] at hix
            exact (List.pairwise_append.1 hix).2.2 x hx y hy)
          (fun x hx => by
            simp only [List.nil_append, List.append_nil] at hx
            exact hok x (perm.mem_iff.1 hx))
          (by simp only [List.nil_append, List.append_nil, List.length_append]; omega)
        simp only [List.nil_append, List.append_nil, List.length_nil, Nat.zero_add, kA, kB, show 20 + (l.length - 20) = l.length by omega] at m1
        have eM : M = isort mLt [] l := srt_unique m3 (srt_isort l hok hix) ((m2.trans perm).trans (isort_perm mLt [] l).symm) (fun x hx => hok x ((m2.trans perm).mem_iff.1 hx))
        rw [eM] at m1
        refine Ev.bind m1 (qbdz.v1 ?_)
        simp (disch := omega) only [S]
        exact Ev.now _
    have w40 : W (20 + 20) = 40 := by decide
    refine qbdz.v0 ?_
    simp only [w40]
    simp (disch := omega) only [S]
    refine Ev.bind i1 (qbdz.v0 ?_)
    simp (disch := omega) only [S]
    exact Ev.bind i2 fin
def tri : Nat → Nat
  | 0 => 0
  | n + 1 => n + tri n
theorem tri_le : ∀ n, n ≤ 8 → tri n ≤ 28 := by decide
theorem mOk_of {i j : Nat} {w v : Wk} (hi : i < 8) (hj : j < 8) (hw : wOk w = true) (hv : wOk v = true) (h : (meet w v).2.2 = true) : mOk [(i : Int), (j : Int), (meet w v).1, (meet w v).2.1] := by
  obtain ⟨b1, b2, b3⟩ := meet_bd hw hv
  exact ⟨_, _, _, _, rfl, by omega, by omega, b1, b3 h, b2.2⟩
theorem allMeetings_same {l : List Wk} (hok : listOk 8 wOk l = true) : ∃ R : List (List Int), Ev (fun k => qcmz.f k l) R ∧ Ev (fun k => qcwz.f k l) (R, true) ∧ R.length ≤ 28 ∧ ∀ x ∈ R, mOk x := by
  obtain ⟨h1, h2⟩ := listOk_iff.1 hok
  -- the statement's way to put one in
  have put : ∀ (i j : Nat) (w : Wk) (num den : Int) (acc : List (List Int)) (r : List (List Int) × Bool), j < 8 → mOk [(i : Int), (j : Int), num, den] → (∀ x ∈ acc, mOk x) → acc.length ≤ 1000 → ∀ n, n ≤ acc.length →
      Ev (fun k => qcwz.l1 k l (i : Int) ((j + 1 : Nat) : Int) l (l.length : Int) (i : Int) (insAt acc [(i : Int), (j : Int), num, den] (posAt mLt [] [(i : Int), (j : Int), num, den] acc n)) w.1 w.2) r →
      Ev (fun k => qcwz.l2 k l (i : Int) (j : Int) num den (n : Int) l (l.length : Int) (i : Int) acc w.1 w.2) r := by
    intro i j w num den acc r hj hm hacc hlen n
    have fin : ∀ p : Nat, p ≤ acc.length → ((acc.take p ++ [[(i : Int), (j : Int), num, den]]) ++ (acc.drop p).take (acc.length - p)) = insAt acc [(i : Int), (j : Int), num, den] p := by
      intro p hp
      have e : (acc.drop p).take (acc.length - p) = acc.drop p := List.take_of_length_le (by simp)
      unfold insAt
      rw [e]
      simp
    obtain ⟨_, _, _, _, e, _, _, hn, hd⟩ := hm
    injection e with e1 e; injection e with e2 e; injection e with e3 e; injection e with e4 e
    subst e3 e4
    have wj : W ((j : Int) + 1) = ((j + 1 : Nat) : Int) := by rw [w64 (by omega) (by omega)]; omega
    induction n with
    | zero =>
      intro _ h
      have hf := fin 0 (Nat.zero_le _)
      have h' : Ev (fun k => qcwz.l1 k l (i : Int) ((j + 1 : Nat) : Int) l (l.length : Int) (i : Int) (insAt acc [(i : Int), (j : Int), num, den] 0) w.1 w.2) r := h
      refine qcwz.v2 ?_
      have c : iGt ((0 : Nat) : Int) 0 = false := rfl
      simp only [c, Bool.false_eq_true, if_false, wj]
      simp (disch := omega) only [S, List.nil_append, List.length_append, List.length_cons, List.length_nil, List.length_take, List.length_drop]
      rw [hf]
      exact h'
    | succ n ih =>
      intro hn1 h
      have hy := hacc _ (getD_mem (z := ([] : List Int)) (show n < acc.length by omega))
      obtain ⟨i', k', num', den', ey, _, _, hn', hd'⟩ := hy
      have ew : W (((n + 1 : Nat) : Int) - 1) = ((n : Nat) : Int) := by rw [w64 (by omega) (by omega)]; omega
      have m1 := mulb (a := num) (b := den') (A := 2000) (B := 200) (by omega) (by omega) (by omega) (by omega)
      have m2 := mulb (a := num') (b := den) (A := 2000) (B := 200) (by omega) (by omega) (by omega) (by omega)
      have hlt : mLt [(i : Int), (j : Int), num, den] (acc.getD n []) = decide (num * den' < num' * den) := by rw [ey]; rfl
      unfold posAt at h
      rw [hlt] at h
      refine qcwz.v2 ?_
      simp only [ew, wj]
      simp (disch := omega) only [S, ey, List.length_cons, List.length_nil, rd2, rd3]
      have ec : iLt (num * den') (num' * den) = decide (num * den' < num' * den) := rfl
      rw [ec]
      cases hbf : decide (num * den' < num' * den) with
      | true =>
        rw [hbf, if_pos rfl] at h
        simp only [if_true]
        exact ih (by omega) h
      | false =>
        rw [hbf, if_neg (by simp)] at h
        have hf := fin (n + 1) hn1
        simp only [Bool.false_eq_true, if_false]
        simp (disch := omega) only [S, List.nil_append, List.length_append, List.length_cons, List.length_nil, List.length_take, List.length_drop]
        rw [hf]
        exact h
  -- one walker with those behind
  have outer : ∀ (e i : Nat), i + e = l.length → ∀ acc : List (List Int), acc.length + tri e ≤ 28 → (∀ x ∈ acc, mOk x) → acc.Pairwise (fun x y => mIx x < mIx y) → (∀ x ∈ acc, mIx x < 8 * (i : Int)) →
      ∃ R : List (List Int), Ev (fun k => qcmz.l0 k l l (l.length : Int) (i : Int) acc) R ∧ Ev (fun k => qcwz.l0 k l l (l.length : Int) (i : Int) (isort mLt [] acc)) (R, true) ∧ R.length ≤ 28 ∧ ∀ x ∈ R, mOk x := by
    intro e
    induction e with
    | zero =>
      intro i hi acc hc ho hp hx
      refine ⟨isort mLt [] acc, qcmz.v0 ?_, qcwz.v0 ?_, by rw [isort_len]; omega, fun x hx => ho x ((isort_perm mLt [] acc).mem_iff.1 hx)⟩
      · simp (disch := omega) only [S]
        exact Ev.bind (stable_run (by omega) ho hp) (Ev.now _)
      · simp (disch := omega) only [S]
        exact Ev.now _
    | succ e ih =>
      intro i hi acc hc ho hp hx
      have hw := h2 _ (getD_mem (z := (0, 0)) (show i < l.length by omega))
      have inner : ∀ (d j : Nat), j + d = l.length → i < j → ∀ acc : List (List Int), acc.length + d + tri e ≤ 28 → (∀ x ∈ acc, mOk x) → acc.Pairwise (fun x y => mIx x < mIx y) → (∀ x ∈ acc, mIx x < 8 * (i : Int) + j) →
          ∃ R : List (List Int), Ev (fun k => qcmz.l1 k l (i : Int) (j : Int) l (l.length : Int) (i : Int) acc (l.getD i (0, 0)).1 (l.getD i (0, 0)).2) R ∧ Ev (fun k => qcwz.l1 k l (i : Int) (j : Int) l (l.length : Int) (i : Int) (isort mLt [] acc) (l.getD i (0, 0)).1 (l.getD i (0, 0)).2) (R, true) ∧ R.length ≤ 28 ∧ ∀ x ∈ R, mOk x := by
        intro d
        induction d with
        | zero =>
          intro j hj hij acc hc ho hp hx
          obtain ⟨R, r1, r2, r3⟩ := ih (i + 1) (by omega) acc (by omega) ho hp (fun x h => by have := hx x h; omega)
          refine ⟨R, qcmz.v1 ?_, qcwz.v1 ?_, r3⟩
          · simp (disch := omega) only [S]; exact r1
          · simp (disch := omega) only [S]; exact r2
        | succ d ihd =>
          intro j hj hij acc hc ho hp hx
          have hv := h2 _ (getD_mem (z := (0, 0)) (show j < l.length by omega))
          have hI := impl_meetingTime_eq hw hv
          have hS := spec_meMeet_eq hw hv
          cases hm : (meet (l.getD i (0, 0)) (l.getD j (0, 0))).2.2 with
          | false =>
            obtain ⟨R, r1, r2, r3⟩ := ihd (j + 1) (by omega) (by omega) acc (by omega) ho hp (fun x h => by have := hx x h; omega)
            refine ⟨R, qcmz.v1 ?_, qcwz.v1 ?_, r3⟩
            · simp (disch := omega) only [S]
              refine Ev.bind hI ?_
              simp only [hm, Bool.false_eq_true, if_false]
              exact r1
            · simp (disch := omega) only [S]
              refine Ev.bind hS ?_
              simp only [hm, Bool.not_false, if_true]
              exact r2
          | true =>
            have hmo := mOk_of (i := i) (j := j) (by omega) (by omega) hw hv hm
            have hmx : mIx [(i : Int), (j : Int), (meet (l.getD i (0, 0)) (l.getD j (0, 0))).1, (meet (l.getD i (0, 0)) (l.getD j (0, 0))).2.1] = 8 * (i : Int) + j := by unfold mIx; simp only [List.getD_cons_zero, List.getD_cons_succ]; omega
            obtain ⟨R, r1, r2, r3⟩ := ihd (j + 1) (by omega) (by omega) (acc ++ [[(i : Int), (j : Int), (meet (l.getD i (0, 0)) (l.getD j (0, 0))).1, (meet (l.getD i (0, 0)) (l.getD j (0, 0))).2.1]]) (by simp only [List.length_append, List.length_cons, List.length_nil]; omega)
              (fun x h => by
                rcases List.mem_append.1 h with h | h
                · exact ho x h
                · rw [List.mem_singleton.1 h]; exact hmo)
              (List.pairwise_append.2 ⟨hp, by simp, fun x h y h' => by rw [List.mem_singleton.1 h', hmx]; exact hx x h⟩)
              (fun x h => by
                rcases List.mem_append.1 h with h | h
                · have := hx x h; omega
                · rw [List.mem_singleton.1 h, hmx]; omega)
            refine ⟨R, qcmz.v1 ?_, qcwz.v1 ?_, r3⟩
            · simp (disch := omega) only [S]
              refine Ev.bind hI ?_
              simp (disch := omega) only [hm, S]
              exact r1
            · have hil := isort_len mLt [] acc
              simp (disch := omega) only [S]
              refine Ev.bind hS ?_
              simp (disch := omega) only [hm, S]
              rw [isort_snoc] at r2
              exact put i j (l.getD i (0, 0)) _ _ _ _ (by omega) hmo (fun x h => ho x ((isort_perm mLt [] acc).mem_iff.1 h)) (by omega) _ (Nat.le_refl _) r2
      have ht : tri (e + 1) = e + tri e := rfl
      obtain ⟨R, r1, r2, r3⟩ := inner e (i + 1) (by omega) (by omega) acc (by omega) ho hp (fun x h => by have := hx x h; omega)
      refine ⟨R, qcmz.v0 ?_, qcwz.v0 ?_, r3⟩
      · simp (disch := omega) only [S]; exact r1
      · simp (disch := omega) only [S]; exact r2
  obtain ⟨R, r1, r2, r3⟩ := outer l.length 0 (by omega) [] (by have := tri_le _ h1.2; simpa using this) (by simp) List.Pairwise.nil (by simp)
  refine ⟨R, qcmz.v ?_, qcwz.v (Ev.bind (spec_meAll_eq l) ?_), r3⟩
  · simp only [S]; exact r1
  · simp only [hok, S]; exact r2
theorem AllMeetings_same {l : List Wk} (hok : listOk 8 wOk l = true) : ∃ R : List (List Int), Ev (fun k => qcrz.f k l) (R, true) ∧ Ev (fun k => qcwz.f k l) (R, true) ∧ R.length ≤ 28 ∧ ∀ x ∈ R, mOk x := by
  obtain ⟨R, r1, r2, r3⟩ := allMeetings_same hok
  refine ⟨R, qcrz.v (Ev.bind (impl_AreWalkers_eq l) ?_), r2, r3⟩
  simp only [hok, S]
  exact Ev.bind r1 (Ev.now _)
theorem CountMeetings_same {l : List Wk} (hok : listOk 8 wOk l = true) : ∃ n : Int, Ev (fun k => qbwz.f k l) (n, true) ∧ Ev (fun k => qbtz.f k l) (n, true) ∧ i64 n ∧ 0 ≤ n := by
  obtain ⟨R, r1, r2, r3, _⟩ := allMeetings_same hok
  refine ⟨R.length, qbwz.v (Ev.bind (impl_AreWalkers_eq l) ?_), qbtz.v (Ev.bind r2 ?_), by unfold i64; omega, by omega⟩
  · simp only [hok, S]
    exact Ev.bind r1 (ev_now (by simp only [S]))
  · exact ev_now (by simp only [S])
theorem meet_symm (w v : Wk) : meet w v = meet v w := by
  unfold meet
  by_cases hp : w.1 = v.1
  · rw [if_pos hp, if_pos hp.symm]
  · rw [if_neg hp, if_neg (Ne.symm hp)]
    by_cases hs : w.2 = v.2
    · rw [if_pos hs, if_pos hs.symm]
    · rw [if_neg hs, if_neg (Ne.symm hs)]
      have e := low_neg (n := v.1 - w.1) (d := w.2 - v.2) (by omega)
      rw [show -(v.1 - w.1) = w.1 - v.1 by omega, show -(w.2 - v.2) = v.2 - w.2 by omega] at e
      rw [e]
def Ahead (l : List Wk) (a : Wk) (n d : Int) : Prop := ∀ v ∈ l, a.2 < v.2 → v.1 * d + v.2 * n ≤ a.1 * d + a.2 * n
theorem mul_pos_le {a b c : Int} (hc : 0 < c) (h : a * c ≤ b * c) : a ≤ b := Int.le_of_mul_le_mul_right h hc
theorem frac_trans {a b c d e f : Int} (hb : 0 < b) (hd : 0 < d) (hf : 0 < f) (h1 : a * d ≤ c * b) (h2 : c * f ≤ e * d) : a * f ≤ e * b := by
  have p1 := Int.mul_le_mul_of_nonneg_right h1 (show 0 ≤ f by omega)
  have p2 := Int.mul_le_mul_of_nonneg_right h2 (show 0 ≤ b by omega)
  refine mul_pos_le hd ?_
  rw [show a * f * d = a * d * f by ac_rfl, show e * b * d = e * d * b by ac_rfl]
  rw [show c * f * b = c * b * f by ac_rfl] at p2
  omega
theorem lead_meet {a v : Wk} (ha : wOk a = true) (hv : wOk v = true) (hs : a.2 < v.2) {n d : Int} (hn : 0 ≤ n) (hd : 0 < d) (h : v.1 * d + v.2 * n ≤ a.1 * d + a.2 * n) :
    (meet a v).2.2 = true ∧ n * (meet a v).2.1 ≤ (meet a v).1 * d ∧ (meet a v).1 * (v.2 - a.2) = (a.1 - v.1) * (meet a v).2.1 := by
  have hb := meet_bd ha hv
  have key : n * (v.2 - a.2) ≤ (a.1 - v.1) * d := by
    rw [Int.mul_sub, Int.sub_mul, Int.mul_comm n v.2, Int.mul_comm n a.2]; omega
  have hpos : 0 ≤ (a.1 - v.1) * d := Int.le_trans (Int.mul_nonneg hn (by omega)) key
  have hx : v.1 ≤ a.1 := by
    have : 0 * d ≤ (a.1 - v.1) * d := by omega
    have := mul_pos_le hd this
    omega
  have hok : (meet a v).2.2 = true ∧ (meet a v).1 * (v.2 - a.2) = (a.1 - v.1) * (meet a v).2.1 := by
    unfold meet
    by_cases e : a.1 = v.1
    · rw [if_pos e]
      exact ⟨rfl, by simp only []; rw [e, Int.sub_self, Int.zero_mul, Int.zero_mul]⟩
    · rw [if_neg e, if_neg (by omega)]
      have hsg := (low_sign (n := v.1 - a.1) (d := a.2 - v.2) (by omega)).1
      have hl := low_eq (n := v.1 - a.1) (d := a.2 - v.2) (by omega)
      rw [if_neg (fun h => by have := hsg.1 h; omega)]
      refine ⟨rfl, ?_⟩
      simp only []
      rw [show a.2 - v.2 = -(v.2 - a.2) by omega, show v.1 - a.1 = -(a.1 - v.1) by omega, Int.mul_neg, Int.neg_mul] at hl
      rw [show a.2 - v.2 = -(v.2 - a.2) by omega, show v.1 - a.1 = -(a.1 - v.1) by omega]
      omega
  refine ⟨hok.1, ?_, hok.2⟩
  have hD := hb.2.2 hok.1
  have p := Int.mul_le_mul_of_nonneg_right key (show 0 ≤ (meet a v).2.1 by omega)
  have e : (meet a v).1 * (v.2 - a.2) * d = (a.1 - v.1) * (meet a v).2.1 * d := congrArg (· * d) hok.2
  refine mul_pos_le (show 0 < v.2 - a.2 by omega) ?_
  rw [show n * (meet a v).2.1 * (v.2 - a.2) = n * (v.2 - a.2) * (meet a v).2.1 by ac_rfl, show (meet a v).1 * d * (v.2 - a.2) = (meet a v).1 * (v.2 - a.2) * d by ac_rfl, e, show (a.1 - v.1) * (meet a v).2.1 * d = (a.1 - v.1) * d * (meet a v).2.1 by ac_rfl]
  exact p
theorem lead_next {l : List Wk} (hl : ∀ w ∈ l, wOk w = true) {a b : Wk} (ha : a ∈ l) (hb : b ∈ l) (hs : a.2 < b.2) {n d : Int} (hn : 0 ≤ n) (hd : 0 < d) (h : Ahead l a n d)
    (hmin : ∀ v ∈ l, a.2 < v.2 → (meet a b).1 * (meet a v).2.1 ≤ (meet a v).1 * (meet a b).2.1) : Ahead l b (meet a b).1 (meet a b).2.1 := by
  intro v hv hbv
  obtain ⟨o1, _, e1⟩ := lead_meet (hl a ha) (hl b hb) hs hn hd (h b hb hs)
  obtain ⟨o2, _, e2⟩ := lead_meet (hl a ha) (hl v hv) (by omega) hn hd (h v hv (by omega))
  have d1 := (meet_bd (hl a ha) (hl b hb)).2.2 o1
  have d2 := (meet_bd (hl a ha) (hl v hv)).2.2 o2
  have hm := hmin v hv (by omega)
  generalize (meet a b).1 = N at *
  generalize (meet a b).2.1 = D at *
  generalize (meet a v).1 = M at *
  generalize (meet a v).2.1 = E at *
  -- N (v - a) ≤ (xa - xv) D
  have k : N * (v.2 - a.2) ≤ (a.1 - v.1) * D := by
    have p := Int.mul_le_mul_of_nonneg_right hm (show 0 ≤ v.2 - a.2 by omega)
    refine mul_pos_le d2 ?_
    rw [show N * (v.2 - a.2) * E = N * E * (v.2 - a.2) by ac_rfl, show (a.1 - v.1) * D * E = (a.1 - v.1) * E * D by ac_rfl, ← e2, show M * (v.2 - a.2) * D = M * D * (v.2 - a.2) by ac_rfl]
    exact p
  rw [Int.mul_sub, Int.sub_mul, Int.mul_comm N v.2, Int.mul_comm N a.2] at k
  rw [Int.mul_sub, Int.sub_mul, Int.mul_comm N b.2, Int.mul_comm N a.2] at e1
  omega
def fast (l : List Wk) (s : Int) : Nat := l.countP fun v => decide (s < v.2)
theorem fast_lt : ∀ {l : List Wk} {s t : Int} {b : Wk}, b ∈ l → s < b.2 → b.2 = t → fast l t < fast l s := by
  intro l
  induction l with
  | nil => intro _ _ b h; simp at h
  | cons w l ih =>
    intro s t b hb h1 h2
    have mono : fast l t ≤ fast l s := List.countP_mono_left fun v _ h => by
      have := of_decide_eq_true h
      exact decide_eq_true (by omega)
    unfold fast at *
    rw [List.countP_cons, List.countP_cons]
    rcases List.mem_cons.1 hb with rfl | hb
    · rw [if_neg (by simp; omega), if_pos (by simp; omega)]
      omega
    · have h := ih hb h1 h2
      by_cases c : t < w.2
      · rw [if_pos (by simp; omega), if_pos (by simp; omega)]; omega
      · rw [if_neg (by simp; omega)]; omega
theorem fast_le (l : List Wk) (s : Int) : fast l s ≤ l.length := List.countP_le_length
theorem lead_first {l : List Wk} (h8 : l.length ≤ 8) : ∀ (d i a : Nat), i + d = l.length → a < l.length → (∀ j, j < i → (l.getD j (0, 0)).1 ≤ (l.getD a (0, 0)).1) →
    ∃ b, b < l.length ∧ (∀ j, j < l.length → (l.getD j (0, 0)).1 ≤ (l.getD b (0, 0)).1) ∧
      (∀ r, Ev (fun k => qcqz.l1 k l (b : Int) [(b : Int)]) r → Ev (fun k => qcqz.l0 k l (a : Int) l (l.length : Int) (i : Int)) r) ∧
      (∀ r, Ev (fun k => qdwz.l1 k l (b : Int) 0 1 0 [(b : Int)]) r → Ev (fun k => qdwz.l0 k l (a : Int) l (l.length : Int) (i : Int)) r) := by
  intro d
  induction d with
  | zero =>
    intro i a hi ha hj
    refine ⟨a, ha, fun j h => hj j (by omega), fun r h => qcqz.v0 ?_, fun r h => qdwz.v0 ?_⟩ <;> simp (disch := omega) only [S] <;> exact h
  | succ d ih =>
    intro i a hi ha hj
    by_cases c1 : (l.getD a (0, 0)).1 < (l.getD i (0, 0)).1
    · obtain ⟨b, b1, b2, b3, b4⟩ := ih (i + 1) i (by omega) (by omega) (fun j h => by
        rcases Nat.lt_or_ge j i with h | h'
        · have := hj j h; omega
        · rw [show j = i by omega]; omega)
      refine ⟨b, b1, b2, fun r h => qcqz.v0 ?_, fun r h => qdwz.v0 ?_⟩ <;> simp (disch := omega) only [S]
      · exact b3 r h
      · exact b4 r h
    · by_cases c2 : (l.getD i (0, 0)).1 = (l.getD a (0, 0)).1 ∧ (l.getD a (0, 0)).2 < (l.getD i (0, 0)).2
      · obtain ⟨b, b1, b2, b3, b4⟩ := ih (i + 1) i (by omega) (by omega) (fun j h => by
          rcases Nat.lt_or_ge j i with h | h'
          · have := hj j h; omega
          · rw [show j = i by omega]; omega)
        refine ⟨b, b1, b2, fun r h => qcqz.v0 ?_, fun r h => qdwz.v0 ?_⟩ <;> simp (disch := omega) only [S]
        · exact b3 r h
        · exact b4 r h
      · obtain ⟨b, b1, b2, b3, b4⟩ := ih (i + 1) a (by omega) ha (fun j h => by
          rcases Nat.lt_or_ge j i with h | h'
          · exact hj j h
          · rw [show j = i by omega]; omega)
        refine ⟨b, b1, b2, fun r h => qcqz.v0 ?_, fun r h => qdwz.v0 ?_⟩
        · by_cases c3 : (l.getD i (0, 0)).1 = (l.getD a (0, 0)).1
          · simp (disch := omega) only [S]; exact b3 r h
          · simp (disch := omega) only [S]; exact b3 r h
        · by_cases c3 : (l.getD i (0, 0)).1 = (l.getD a (0, 0)).1
          · simp (disch := omega) only [S]; exact b4 r h
          · simp (disch := omega) only [S]; exact b4 r h
abbrev mt (l : List Wk) (a j : Nat) : R3 := meet (l.getD a (0, 0)) (l.getD j (0, 0))
def First (l : List Wk) (a b i : Nat) : Prop := b < l.length ∧ (l.getD a (0, 0)).2 < (l.getD b (0, 0)).2 ∧ ∀ j, j < i → j < l.length → (l.getD a (0, 0)).2 < (l.getD j (0, 0)).2 → (mt l a b).1 * (mt l a j).2.1 ≤ (mt l a j).1 * (mt l a b).2.1
section
variable {l : List Wk} (h8 : l.length ≤ 8) (hl : ∀ w ∈ l, wOk w = true) {a : Nat} (ha : a < l.length) {n d : Int} (hn : 0 ≤ n ∧ n ≤ 2000) (hd : 0 < d ∧ d ≤ 200) (hA : Ahead l (l.getD a (0, 0)) n d) (round : Nat) (out : List Int)
include h8 hl ha hn hd hA
theorem mt_faster {j : Nat} (hj : j < l.length) (hf : (l.getD a (0, 0)).2 < (l.getD j (0, 0)).2) : (mt l a j).2.2 = true ∧ n * (mt l a j).2.1 ≤ (mt l a j).1 * d ∧ (0 < (mt l a j).2.1 ∧ (mt l a j).2.1 ≤ 200) ∧ (0 ≤ (mt l a j).1 ∧ (mt l a j).1 ≤ 2000) := by
  have _ := h8
  have h1 := hl _ (getD_mem (z := (0, 0)) ha)
  have h2 := hl _ (getD_mem (z := (0, 0)) hj)
  obtain ⟨o1, o2, _⟩ := lead_meet h1 h2 hf hn.1 hd.1 (hA _ (getD_mem hj) hf)
  have hb := meet_bd h1 h2
  exact ⟨o1, o2, ⟨hb.2.2 o1, hb.2.1.2⟩, hb.1⟩
set_option maxHeartbeats 2000000 in
theorem lead_B (ho : out.length ≤ 100) : ∀ (e i : Nat), i + e = l.length → ∀ c, First l a c i →
    ∃ b, First l a b l.length ∧
      (∀ r, Ev (fun k => qcqz.l1 k l (b : Int) (out ++ [(b : Int)])) r → Ev (fun k => qcqz.l2 k l (a : Int) (c : Int) (mt l a c).1 (mt l a c).2.1 l (l.length : Int) (i : Int) out) r) ∧
      (∀ r, Ev (fun k => qdwz.l1 k l (b : Int) (mt l a b).1 (mt l a b).2.1 (W ((round : Int) + 1)) (out ++ [(b : Int)])) r → Ev (fun k => qdwz.l2 k l (a : Int) n d (round : Int) (c : Int) (mt l a c).1 (mt l a c).2.1 l (l.length : Int) (i : Int) out) r) := by
  intro e
  induction e with
  | zero =>
    intro i hi c hc
    rw [show i = l.length by omega] at hc ⊢
    refine ⟨c, hc, fun r h => qcqz.v2 ?_, fun r h => qdwz.v2 ?_⟩ <;> simp (disch := omega) only [S] <;> exact h
  | succ e ih =>
    intro i hi c hc
    have hil : i < l.length := by omega
    have hwa := hl _ (getD_mem (z := (0, 0)) ha)
    have hwi := hl _ (getD_mem (z := (0, 0)) hil)
    have hS : Ev (fun k => qgvz.f k (l.getD a (0, 0)).1 (l.getD a (0, 0)).2 (l.getD i (0, 0)).1 (l.getD i (0, 0)).2) (mt l a i) := spec_meMeet_eq hwa hwi
    have hI : Ev (fun k => qddz.f k (l.getD i (0, 0)).1 (l.getD i (0, 0)).2 (l.getD a (0, 0)).1 (l.getD a (0, 0)).2) (mt l a i) := by
      have := impl_meetingTime_eq hwi hwa
      rwa [meet_symm] at this
    obtain ⟨c1, c2, c3⟩ := hc
    by_cases hf : (l.getD a (0, 0)).2 < (l.getD i (0, 0)).2
    · obtain ⟨o1, o2, o3, o4⟩ := mt_faster h8 hl ha hn hd hA hil hf
      obtain ⟨p1, p2, p3, p4⟩ := mt_faster h8 hl ha hn hd hA c1 c2
      have m1 := mulb (a := (mt l a i).1) (b := (mt l a c).2.1) (A := 2000) (B := 200) (by omega) (by omega) (by omega) (by omega)
      have m2 := mulb (a := (mt l a c).1) (b := (mt l a i).2.1) (A := 2000) (B := 200) (by omega) (by omega) (by omega) (by omega)
      have m3 := mulb (a := (mt l a i).1) (b := d) (A := 2000) (B := 200) (by omega) (by omega) (by omega) (by omega)
      have m4 := mulb (a := n) (b := (mt l a i).2.1) (A := 2000) (B := 200) (by omega) (by omega) (by omega) (by omega)
      have take : (mt l a i).1 * (mt l a c).2.1 ≤ (mt l a c).1 * (mt l a i).2.1 → First l a i (i + 1) := fun h => ⟨hil, hf, fun j j1 j2 j3 => by
        rcases Nat.lt_or_ge j i with j4 | j4
        · exact frac_trans o3.1 p3.1 (mt_faster h8 hl ha hn hd hA j2 j3).2.2.1.1 h (c3 j j4 j2 j3)
        · rw [show j = i by omega]; exact Int.le_refl _⟩
      have keep : ¬ (mt l a i).1 * (mt l a c).2.1 < (mt l a c).1 * (mt l a i).2.1 → First l a c (i + 1) := fun h => ⟨c1, c2, fun j j1 j2 j3 => by
        rcases Nat.lt_or_ge j i with j4 | j4
        · exact c3 j j4 j2 j3
        · rw [show j = i by omega]; omega⟩
      by_cases q1 : (mt l a i).1 * (mt l a c).2.1 < (mt l a c).1 * (mt l a i).2.1
      · obtain ⟨b, b1, b2, b3⟩ := ih (i + 1) (by omega) i (take (by omega))
        refine ⟨b, b1, fun r h => qcqz.v2 ?_, fun r h => qdwz.v2 ?_⟩
        · simp (disch := omega) only [S]
          refine Ev.bind hI ?_
          simp (disch := omega) only [o1, S]
          exact b2 r h
        · simp (disch := omega) only [S]
          refine Ev.bind hS ?_
          simp (disch := omega) only [o1, S]
          exact b3 r h
      · by_cases q2 : (mt l a i).1 * (mt l a c).2.1 = (mt l a c).1 * (mt l a i).2.1
        · by_cases q3 : (l.getD c (0, 0)).2 < (l.getD i (0, 0)).2
          · obtain ⟨b, b1, b2, b3⟩ := ih (i + 1) (by omega) i (take (by omega))
            refine ⟨b, b1, fun r h => qcqz.v2 ?_, fun r h => qdwz.v2 ?_⟩
            · simp (disch := omega) only [S]
              refine Ev.bind hI ?_
              simp (disch := omega) only [o1, S]
              exact b2 r h
            · simp (disch := omega) only [S]
              refine Ev.bind hS ?_
              simp (disch := omega) only [o1, S]
              exact b3 r h
          · obtain ⟨b, b1, b2, b3⟩ := ih (i + 1) (by omega) c (keep q1)
            refine ⟨b, b1, fun r h => qcqz.v2 ?_, fun r h => qdwz.v2 ?_⟩
            · simp (disch := omega) only [S]
              refine Ev.bind hI ?_
              simp (disch := omega) only [o1, S]
              exact b2 r h
            · simp (disch := omega) only [S]
              refine Ev.bind hS ?_
              simp (disch := omega) only [o1, S]
              exact b3 r h
        · obtain ⟨b, b1, b2, b3⟩ := ih (i + 1) (by omega) c (keep q1)
          refine ⟨b, b1, fun r h => qcqz.v2 ?_, fun r h => qdwz.v2 ?_⟩
          · simp (disch := omega) only [S]
            refine Ev.bind hI ?_
            simp (disch := omega) only [o1, S]
            exact b2 r h
          · simp (disch := omega) only [S]
            refine Ev.bind hS ?_
            simp (disch := omega) only [o1, S]
            exact b3 r h
    · obtain ⟨b, b1, b2, b3⟩ := ih (i + 1) (by omega) c ⟨c1, c2, fun j j1 j2 j3 => by
        rcases Nat.lt_or_ge j i with j4 | j4
        · exact c3 j j4 j2 j3
        · rw [show j = i by omega] at j3; exact absurd j3 hf⟩
      refine ⟨b, b1, fun r h => qcqz.v2 ?_, fun r h => qdwz.v2 ?_⟩
      · simp (disch := omega) only [S]
        exact b2 r h
      · simp (disch := omega) only [S]
        exact Ev.bind hS (b3 r h)
theorem lead_A (ho : out.length ≤ 100) : ∀ (e i : Nat), i + e = l.length → (∀ j, j < i → j < l.length → ¬ (l.getD a (0, 0)).2 < (l.getD j (0, 0)).2) →
    (Ev (fun k => qcqz.l2 k l (a : Int) (-1) 0 0 l (l.length : Int) (i : Int) out) out ∧ Ev (fun k => qdwz.l2 k l (a : Int) n d (round : Int) (-1) 0 1 l (l.length : Int) (i : Int) out) (out, true)) ∨
    ∃ b, First l a b l.length ∧
      (∀ r, Ev (fun k => qcqz.l1 k l (b : Int) (out ++ [(b : Int)])) r → Ev (fun k => qcqz.l2 k l (a : Int) (-1) 0 0 l (l.length : Int) (i : Int) out) r) ∧
      (∀ r, Ev (fun k => qdwz.l1 k l (b : Int) (mt l a b).1 (mt l a b).2.1 (W ((round : Int) + 1)) (out ++ [(b : Int)])) r → Ev (fun k => qdwz.l2 k l (a : Int) n d (round : Int) (-1) 0 1 l (l.length : Int) (i : Int) out) r) := by
  intro e
  induction e with
  | zero =>
    intro i hi hc
    refine .inl ⟨qcqz.v2 ?_, qdwz.v2 ?_⟩ <;> simp (disch := omega) only [S] <;> exact Ev.now _
  | succ e ih =>
    intro i hi hc
    have hil : i < l.length := by omega
    have hwa := hl _ (getD_mem (z := (0, 0)) ha)
    have hwi := hl _ (getD_mem (z := (0, 0)) hil)
    have hS : Ev (fun k => qgvz.f k (l.getD a (0, 0)).1 (l.getD a (0, 0)).2 (l.getD i (0, 0)).1 (l.getD i (0, 0)).2) (mt l a i) := spec_meMeet_eq hwa hwi
    have hI : Ev (fun k => qddz.f k (l.getD i (0, 0)).1 (l.getD i (0, 0)).2 (l.getD a (0, 0)).1 (l.getD a (0, 0)).2) (mt l a i) := by
      have := impl_meetingTime_eq hwi hwa
      rwa [meet_symm] at this
    by_cases hf : (l.getD a (0, 0)).2 < (l.getD i (0, 0)).2
    · obtain ⟨o1, o2, o3, o4⟩ := mt_faster h8 hl ha hn hd hA hil hf
      have m3 := mulb (a := (mt l a i).1) (b := d) (A := 2000) (B := 200) (by omega) (by omega) (by omega) (by omega)
      have m4 := mulb (a := n) (b := (mt l a i).2.1) (A := 2000) (B := 200) (by omega) (by omega) (by omega) (by omega)
      obtain ⟨b, b1, b2, b3⟩ := lead_B h8 hl ha hn hd hA round out ho e (i + 1) (by omega) i ⟨hil, hf, fun j j1 j2 j3 => by
        rcases Nat.lt_or_ge j i with j4 | j4
        · exact absurd j3 (hc j j4 j2)
        · rw [show j = i by omega]; exact Int.le_refl _⟩
      refine .inr ⟨b, b1, fun r h => qcqz.v2 ?_, fun r h => qdwz.v2 ?_⟩
      · simp (disch := omega) only [S]
        refine Ev.bind hI ?_
        simp (disch := omega) only [o1, S]
        exact b2 r h
      · simp (disch := omega) only [S]
        refine Ev.bind hS ?_
        simp (disch := omega) only [o1, S]
        exact b3 r h
    · have hc' : ∀ j, j < i + 1 → j < l.length → ¬ (l.getD a (0, 0)).2 < (l.getD j (0, 0)).2 := fun j j1 j2 => by
        rcases Nat.lt_or_ge j i with j4 | j4
        · exact hc j j4 j2
        · rw [show j = i by omega]; exact hf
      rcases ih (i + 1) (by omega) hc' with ⟨r1, r2⟩ | ⟨b, b1, b2, b3⟩
      · refine .inl ⟨qcqz.v2 ?_, qdwz.v2 ?_⟩
        · simp (disch := omega) only [S]
          exact r1
        · simp (disch := omega) only [S]
          exact Ev.bind hS r2
      · refine .inr ⟨b, b1, fun r h => qcqz.v2 ?_, fun r h => qdwz.v2 ?_⟩
        · simp (disch := omega) only [S]
          exact b2 r h
        · simp (disch := omega) only [S]
          exact Ev.bind hS (b3 r h)
end
theorem lead_all {l : List Wk} (h8 : l.length ≤ 8) (hl : ∀ w ∈ l, wOk w = true) : ∀ (N a : Nat) (n d : Int) (round : Nat) (out : List Int), fast l (l.getD a (0, 0)).2 ≤ N → a < l.length → (0 ≤ n ∧ n ≤ 2000) → (0 < d ∧ d ≤ 200) → Ahead l (l.getD a (0, 0)) n d → round + N < 2 * l.length → out.length + N ≤ 9 → 0 < out.length → (∀ x ∈ out, inR l.length x) →
    ∃ R : List Int, Ev (fun k => qcqz.l1 k l (a : Int) out) R ∧ Ev (fun k => qdwz.l1 k l (a : Int) n d (round : Int) out) (R, true) ∧ (0 < R.length ∧ R.length ≤ 9) ∧ ∀ x ∈ R, inR l.length x := by
  intro N
  induction N with
  | zero =>
    intro a n d round out hf ha hn hd hA hr ho ho0 hx
    have none : ∀ j, j < l.length → ¬ (l.getD a (0, 0)).2 < (l.getD j (0, 0)).2 := fun j hj hlt => by
      have := fast_lt (getD_mem (z := (0, 0)) hj) hlt rfl
      omega
    rcases lead_A h8 hl ha hn hd hA round out (by omega) l.length 0 (by omega) (fun j h => absurd h (by omega)) with ⟨r1, r2⟩ | ⟨b, ⟨b1, b2, _⟩, _⟩
    · refine ⟨out, qcqz.v1 ?_, qdwz.v1 ?_, ⟨ho0, by omega⟩, hx⟩
      · exact r1
      · simp (disch := omega) only [S]; exact r2
    · exact absurd b2 (none b b1)
  | succ N ih =>
    intro a n d round out hf ha hn hd hA hr ho ho0 hx
    rcases lead_A h8 hl ha hn hd hA round out (by omega) l.length 0 (by omega) (fun j h => absurd h (by omega)) with ⟨r1, r2⟩ | ⟨b, ⟨b1, b2, b3⟩, b4, b5⟩
    · refine ⟨out, qcqz.v1 ?_, qdwz.v1 ?_, ⟨ho0, by omega⟩, hx⟩
      · simp only [S]; exact r1
      · simp (disch := omega) only [S]; exact r2
    · have hlt := fast_lt (getD_mem (z := (0, 0)) b1) b2 rfl
      obtain ⟨o1, o2, o3, o4⟩ := mt_faster h8 hl ha hn hd hA b1 b2
      have wr : W ((round : Int) + 1) = ((round + 1 : Nat) : Int) := by rw [w64 (by omega) (by omega)]; omega
      have hA' : Ahead l (l.getD b (0, 0)) (mt l a b).1 (mt l a b).2.1 := lead_next hl (getD_mem ha) (getD_mem b1) b2 hn.1 hd.1 hA (fun v hv hav => by
        obtain ⟨j, hj, e⟩ := List.getElem_of_mem hv
        have ej : l.getD j (0, 0) = v := by rw [List.getD_eq_getElem?_getD, List.getElem?_eq_getElem hj]; exact e
        have := b3 j hj hj (by rw [ej]; exact hav)
        rw [show mt l a j = meet (l.getD a (0, 0)) v by rw [← ej]] at this
        exact this)
      obtain ⟨R, r1, r2, r3⟩ := ih b (mt l a b).1 (mt l a b).2.1 (round + 1) (out ++ [(b : Int)]) (by omega) b1 o4 o3 hA' (by omega) (by simp; omega) (by simp) (fun x h => by
        rcases List.mem_append.1 h with h | h
        · exact hx x h
        · rw [List.mem_singleton.1 h]; exact ⟨b, rfl, b1⟩)
      rw [wr] at b5
      refine ⟨R, qcqz.v1 ?_, qdwz.v1 ?_, r3⟩
      · simp only [S]; exact b4 R r1
      · simp (disch := omega) only [S]; exact b5 (R, true) r2
theorem LeadersOf_same {l : List Wk} (hok : listOk 8 wOk l = true) : ∃ L : List Int, Ev (fun k => qdvz.f k l) (L, true) ∧ Ev (fun k => qdwz.f k l) (L, true) ∧ (0 < L.length ∧ L.length ≤ 9) ∧ ∀ n ∈ L, i64 n := by
  obtain ⟨h1, h2⟩ := listOk_iff.1 hok
  obtain ⟨b, b1, b2, b3, b4⟩ := lead_first h1.2 l.length 0 0 (by omega) (by omega) (fun j h => absurd h (by omega))
  have hA : Ahead l (l.getD b (0, 0)) 0 1 := by
    intro v hv _
    obtain ⟨j, hj, e⟩ := List.getElem_of_mem hv
    have ej : l.getD j (0, 0) = v := by rw [List.getD_eq_getElem?_getD, List.getElem?_eq_getElem hj]; exact e
    have := b2 j hj
    rw [ej] at this
    omega
  have hfl := fast_le l (l.getD b (0, 0)).2
  obtain ⟨R, r1, r2, r3, r4⟩ := lead_all h1.2 h2 l.length b 0 1 0 [(b : Int)] hfl b1 (by omega) (by omega) hA (by omega) (by simp; omega) (by simp) (fun x h => by rw [List.mem_singleton.1 h]; exact ⟨b, rfl, b1⟩)
  refine ⟨R, qdvz.v (Ev.bind (impl_AreWalkers_eq l) ?_), qdwz.v (Ev.bind (spec_meAll_eq l) ?_), r3, fun x hx => by
    obtain ⟨i, rfl, hi⟩ := r4 x hx
    unfold i64; omega⟩
  · simp only [hok, S]
    refine Ev.bind (qcqz.v ?_) (Ev.now _)
    simp only [S]
    exact b3 R r1
  · simp only [hok, S]
    exact b4 (R, true) r2
end Go.Proofs.YtdhkgmhdengnkaaGreatDoor.Dl
