/- Lemmas that the texts of this seat share: a call through a function value that is known, and how arguments that are structs, and slices of structs of whole numbers, are read. -/
import Derived.Test.YtojbcpklmegjpaaWWords
import Derived.Test.YtojbcpklmegjpaaWLast
import Derived.Test.YtojbcpklmegjpaaWMore
import Derived.Deep.Slices
import Derived.Deep.Fields
import Derived.ChangeSame
import Derived.WideShapes
import Derived.WalkKit
namespace Go.Proofs.YtojbcpklmegjpaaV
open Go.RowKit Go.ChangeShapes Go.WideShapes Go.Deep Go.Proofs.YtojbcpklmegjpaaW.PrintWords Go.Proofs.YtojbcpklmegjpaaW.PrintLast
set_option linter.unusedVariables false
section
variable {P : Program} {md : Region.Mode} {ops : Array Oper} {Q : Exit → Act → World → Prop}
/-- A call through a variable whose function is known, as an arm of go_wp2_with. -/
theorem goesF_ {rest : List Oper} {oi : Oper} {a : Act} {w : World} (N : Option Tmp) (hd : oi.dst = N) (hg : oi.guard = none) {f : FuncId} {fn : Func} {as : Array Operand} {ts : Array TypeId} {x : Operand} (hf : P.funcs[f]? = some fn) (hname : (fn.name == "runtime.NumGoroutine") = false) (hb : fn.body.isSome = true) (args : Array Value)
    (hop : oi.op = .call { callee := .value x, args := as, argTypes := ts }) (hx : a.eval x = .func (.func f) #[] #[]) (hargs : as.map a.eval = args)
    (h : Calls P f args w fun e w' => ∃ v, e = .returned v ∧ wpList P ops Q rest (a.put N v) w') : wpList P ops Q (oi :: rest) a w := by
  refine wpList_plain hg fun K hK => ?_
  have he := enters_ hf hname hb args w
  have hrun : (execOp a.eval oi).run P w = .ok (.enter f args) w := by
    unfold execOp
    simp [hop, hx, resolve, Deferred.ofValue, invoke, hargs, he]
  unfold Oper.wp
  rw [hrun, Oper.upon_enter]
  refine h.mono fun e w'' hh => ?_
  obtain ⟨v, rfl, hk⟩ := hh
  subst hd
  exact hK _ _ hk
end
section
variable {H : Type} {enc : TypeId × Value → H} {P : Program} {w : World} {base : Nat} {spare : Nat → Bool} {held : Bool}
/-- A slice of structs, each of so many fields of one cell. -/
theorem open_slice_fields {t e : TypeId} {fs : Array Field} {fuel : Nat} {cs : List Value} {x : DataW H × List MemPlace} (ht : P.underlying t = some (.slice e)) (he : P.underlying e = some (.struct fs))
    (hone : oneCellFields P fs = true) (hC : P.cellsOf e = fs.size) (h : DataW.trod enc P w base spare held fuel t cs = some x) :
    (cs = [.slice none 0 0]) ∨
    ∃ (a : Addr) (len cap : Nat), cs = [.slice (some a) len cap] ∧ len ≤ cap ∧ cap ≤ maxLen ∧
      ∀ i, i < len → ∃ (n : Nat), ∀ (j : Nat) (f : Field), fs[j]? = some f → ∃ (v : Value) (y : DataW H × List MemPlace), w.cell? (a.add (i * fs.size + j)) = some v ∧ DataW.trod enc P w base spare held n f.type [v] = some y := by
  rcases open_slice ht h with h0 | ⟨a, len, cap, m, n, D, Pl, hcs, hb, hl, hm, hmm, hx, hi⟩
  · exact .inl h0.1
  · refine .inr ⟨a, len, cap, hcs, hl, hm, fun i hi0 => ?_⟩
    have him : i < m := by rw [hmm]; split <;> omega
    obtain ⟨cs', hc, ht'⟩ := hi i him
    rw [hC] at hc
    obtain ⟨ys, n', hn', hy, hlen, hyl, hf⟩ := DataW.trod_struct he ht'
    obtain ⟨_, hcl, hat⟩ := World.cells?_some hc
    refine ⟨n', fun j f hj => ?_⟩
    obtain ⟨ho, hk⟩ := hone_of hone j f hj
    have hjl : j < fs.size := (Array.getElem?_eq_some_iff.1 hj).1
    have hcell := hat j hjl
    have hv : cs'[j]? = some (cs'[j]'(by omega)) := List.getElem?_eq_getElem (by omega)
    have h1 := hf j f hj
    rw [ho, hk] at h1
    have hone' : (cs'.drop j).take 1 = [cs'[j]'(by omega)] := by
      rw [List.drop_eq_getElem_cons (by omega)]
      rfl
    rw [hone'] at h1
    have hys : ys[j]? = some (ys[j]'(by omega)) := List.getElem?_eq_getElem (by omega)
    refine ⟨_, _, ?_, h1.trans hys⟩
    rw [← Go.Deep.add_add, hcell, hv]
/-- One list out of what is known at each place. -/
theorem list_of {β : Type} {p : Nat → β → Prop} (n : Nat) (h : ∀ i, i < n → ∃ x, p i x) : ∃ l : List β, l.length = n ∧ ∀ i x, l[i]? = some x → p i x := by
  induction n with
  | zero => exact ⟨[], rfl, fun i x hx => by simp at hx⟩
  | succ n ih =>
    obtain ⟨l, hl, hp⟩ := ih (fun i hi => h i (by omega))
    obtain ⟨x, hx⟩ := h n (by omega)
    refine ⟨l ++ [x], by simp [hl], fun i y hy => ?_⟩
    rcases Nat.lt_or_ge i n with hi | hi
    · rw [List.getElem?_append_left (by omega)] at hy
      exact hp i y hy
    · rw [List.getElem?_append_right (by omega)] at hy
      have : i - l.length = 0 := by
        rcases Nat.eq_zero_or_pos (i - l.length) with h0 | h0
        · exact h0
        · rw [List.getElem?_eq_none (by simp; omega)] at hy
          cases hy
      rw [this] at hy
      simp at hy
      have hin : i = n := by omega
      subst hy
      subst hin
      exact hx
/-- All fields are whole numbers (int). -/
def AllInts (P : Program) (fs : Array Field) : Prop := ∀ (j : Nat) (f : Field), fs[j]? = some f → P.underlying f.type = some (.int .i64)
/-- A slice of structs of whole numbers. -/
theorem open_int_structs {α : Type} (d : Kd α) (mkS : List Int → α) {t e : TypeId} {fs : Array Field} {fuel : Nat} {v : Value} {x : DataW H × List MemPlace} (ht : P.underlying t = some (.slice e)) (he : P.underlying e = some (.struct fs))
    (hone : oneCellFields P fs = true) (hC : P.cellsOf e = fs.size) (hint : AllInts P fs) (hd : d.sz = fs.size) (hK : ∀ (zs : List Int), zs.length = fs.size → d.K w (mkS zs) (zs.map (Value.int .i64)))
    (h : DataW.trod enc P w base spare held fuel t [v] = some x) :
    ∃ (A : Option Addr) (cap : Nat) (L : List (List Int)), v = .slice A (L.map mkS).length cap ∧ (L.map mkS).length ≤ cap ∧ (L.map mkS).length ≤ maxLen ∧ Kd.C d w A (L.map mkS).length (L.map mkS) ∧ ∀ zs ∈ L, zs.length = fs.size ∧ ∀ z ∈ zs, (Lit.int .i64 z).wf = true := by
  rcases open_slice_fields ht he hone hC h with h0 | ⟨a, len, cap, hcs, hl, hm, hi⟩
  · obtain rfl : v = .slice none 0 0 := by simpa using h0
    exact ⟨none, 0, [], rfl, Nat.le_refl _, by simp, Kd.C_nil d w, fun zs hz => by simp at hz⟩
  · obtain rfl : v = .slice (some a) len cap := by simpa using hcs
    obtain ⟨L, hL, hp⟩ := list_of (p := fun i (zs : List Int) => zs.length = fs.size ∧ (∀ z ∈ zs, (Lit.int .i64 z).wf = true) ∧ ∀ j z, zs[j]? = some z → w.cell? (a.add (i * fs.size + j)) = some (.int .i64 z)) len (fun i hlt => by
      obtain ⟨n, hf⟩ := hi i hlt
      obtain ⟨zs, hz, hq⟩ := list_of (p := fun j (z : Int) => w.cell? (a.add (i * fs.size + j)) = some (.int .i64 z) ∧ (Lit.int .i64 z).wf = true) fs.size (fun j hj => by
        have hj' : fs[j]? = some fs[j] := Array.getElem?_eq_getElem hj
        obtain ⟨u, y, hc, hu⟩ := hf j _ hj'
        obtain ⟨z, hz1, _, hw⟩ := DataW.trod_int (hint j _ hj') hu
        obtain rfl : u = .int .i64 z := by simpa using hz1
        exact ⟨z, hc, hw⟩)
      refine ⟨zs, hz, fun z hzm => ?_, fun j z hj => (hq j z hj).1⟩
      obtain ⟨j, hj⟩ := List.getElem?_of_mem hzm
      exact (hq j z hj).2)
    refine ⟨some a, cap, L, by simp [hL], by simp [hL]; exact hl, by simp [hL]; omega, ⟨rfl, ?_, fun _ => ⟨a, rfl, fun j p hj => ?_⟩⟩, fun zs hzs => ?_⟩
    · have : maxLen ≤ 9223372036854775807 := by decide
      simp [hL]; omega
    · rw [List.getElem?_map] at hj
      obtain ⟨zs, hzs, rfl⟩ := Option.map_eq_some_iff.1 hj
      obtain ⟨h1, h2, h3⟩ := hp j zs hzs
      refine ⟨zs.map (Value.int .i64), by simp [h1, hd], hK zs h1, fun i u hu => ?_⟩
      rw [List.getElem?_map] at hu
      obtain ⟨z, hz, rfl⟩ := Option.map_eq_some_iff.1 hu
      rw [hd]
      exact h3 i z hz
    · obtain ⟨j, hj⟩ := List.getElem?_of_mem hzs
      exact ⟨(hp j zs hj).1, (hp j zs hj).2.1⟩
/-- A slice of whole numbers. -/
theorem open_ints_row {k : IntKind} {t e : TypeId} {fuel : Nat} {v : Value} {x : DataW H × List MemPlace} (ht : P.underlying t = some (.slice e)) (he : P.underlying e = some (.int k)) (hC : P.cellsOf e = 1)
    (h : DataW.trod enc P w base spare held fuel t [v] = some x) :
    ∃ (A : Option Addr) (cap : Nat) (zs : List Int), v = .slice A zs.length cap ∧ zs.length ≤ cap ∧ zs.length ≤ maxLen ∧ Kd.C (Kd.int k) w A zs.length zs ∧ ∀ z ∈ zs, (Lit.int k z).wf = true := by
  rcases open_ints ht he hC h with ⟨hcs, _⟩ | ⟨a, l, c, zs, hcs, _, hl, hm, hz, hx, hcell, hwz⟩
  · obtain rfl : v = .slice none 0 0 := by simpa using hcs
    exact ⟨none, 0, [], rfl, Nat.le_refl _, by simp, Kd.C_nil _ w, fun z hz => by simp at hz⟩
  · obtain rfl : v = .slice (some a) l c := by simpa using hcs
    have hlz : l ≤ zs.length := by
      rw [hz]
      split
      · exact hl
      · exact Nat.le_refl _
    have hlen : (zs.take l).length = l := by simp; omega
    refine ⟨some a, c, zs.take l, by rw [hlen], by rw [hlen]; exact hl, by rw [hlen]; omega, ⟨rfl, ?_, fun _ => ⟨a, rfl, fun j p hj => ?_⟩⟩, fun z hz' => hwz z (List.mem_of_mem_take hz')⟩
    · have : maxLen ≤ 9223372036854775807 := by decide
      rw [hlen]; omega
    · have hjl : j < l := by
        rcases Nat.lt_or_ge j l with h1 | h1
        · exact h1
        · rw [List.getElem?_eq_none (by omega)] at hj
          cases hj
      refine ⟨[.int k p], rfl, rfl, fun i u hu => ?_⟩
      rw [List.getElem?_take_of_lt hjl] at hj
      rcases i with _ | i
      · obtain rfl : Value.int k p = u := by simpa using hu
        have := hcell j (by omega)
        rw [List.getD_eq_getElem?_getD, hj] at this
        show w.cell? (a.add (j * 1 + 0)) = _
        rw [Nat.mul_one, Nat.add_zero]
        exact this
      · simp at hu
/-- A struct by value, its fields of one cell each. -/
theorem open_aggs {r : Reach} {b0 : Nat} {t : TypeId} {fs : Array Field} {v : Value} {d : DataW H} {p : List MemPlace} (hs : P.underlying t = some (.struct fs)) (hone : oneCellFields P fs = true) (hC : P.cellsOf t = fs.size)
    (hv : Value.okWide P w r b0 t v) (h : DataW.Trod enc P w base spare held t v d p) :
    ∃ (cs : List Value) (n : Nat), v = .agg cs.toArray ∧ cs.length = fs.size ∧ ∀ (j : Nat) (f : Field), fs[j]? = some f → ∃ (u : Value) (y : DataW H × List MemPlace), cs[j]? = some u ∧ DataW.trod enc P w base spare held n f.type [u] = some y := by
  obtain ⟨cs, rfl, hsz⟩ := okWide_struct hs hv
  obtain ⟨l⟩ := cs
  rw [hC] at hsz
  have hl : l.length = fs.size := hsz
  obtain ⟨fuel, hf⟩ := h
  obtain ⟨xs, n, _, hx, hlen0, hlen, hg⟩ := DataW.trod_struct hs hf
  refine ⟨l, n, rfl, hl, fun j f hj => ?_⟩
  obtain ⟨ho, hk⟩ := hone_of hone j f hj
  have hjl : j < fs.size := (Array.getElem?_eq_some_iff.1 hj).1
  have h1 := hg j f hj
  rw [ho, hk] at h1
  have hc : (Value.agg l.toArray).cells.toList = l := by simp [Value.cells]
  rw [hc] at h1
  have hone' : (l.drop j).take 1 = [l[j]'(by omega)] := by
    rw [List.drop_eq_getElem_cons (by omega)]
    rfl
  rw [hone'] at h1
  have hxs : xs[j]? = some (xs[j]'(by omega)) := List.getElem?_eq_getElem (by omega)
  exact ⟨l[j]'(by omega), _, List.getElem?_eq_getElem (by omega), h1.trans hxs⟩
end
end Go.Proofs.YtojbcpklmegjpaaV
