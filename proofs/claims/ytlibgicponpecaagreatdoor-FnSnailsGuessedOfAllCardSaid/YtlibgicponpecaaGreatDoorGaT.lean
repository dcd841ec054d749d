import Derived.Test.YtlibgicponpecaaGreatDoorPc
import Derived.Test.YtlibgicponpecaaGreatDoorGaC
import Derived.WalkKit
import Derived.ProofKit
import Derived.BigQuiet
import Derived.Deep.QuietTactic
import Derived.Deep.CutBlock
import Derived.Deep.RegionLaw
import Derived.Shelf.RegionOpenPlain
import Derived.Lib.AtoiAllCases
import Derived.Shelf.Strconv.Itoa3
import Derived.Shelf.Strconv.ErrVarAll
import Derived.Shelf.Strings.Split
import Derived.Shelf.Strings.OnBuilder
namespace Go.Proofs.YtlibgicponpecaaGreatDoor.Ga
open Go Go.Proofs.YtlibgicponpecaaGreatDoorPi Go.RowKit
set_option maxRecDepth 100000
set_option linter.unusedVariables false
/-! ### del62: function 62 -/
set_option maxHeartbeats 8000000 in
set_option maxRecDepth 1000000 in
theorem del62.own_calls (g cap n i j : Nat) (xs : List Value) (w : World) (h : w.ownsRow 0 48 3 (.slice (some ⟨g, 0, none⟩) n cap) n xs) (h1 : ∀ u ∈ xs, u.oneCell' = true) (hj : j = i + 1) (hi : i < n) (hn : n ≤ 5000000000000) (hm : cap ≤ 9223372036854775807) (hcap : n ≤ cap) :
  Calls Tryz.prog 62 #[.slice (some ⟨g, 0, none⟩) n cap, .int .i64 i, .int .i64 j] w fun e w' => e = .returned (.slice (some ⟨g, 0, none⟩) (n - 1) cap) ∧ w'.ownsRow 0 48 3 (.slice (some ⟨g, 0, none⟩) (n - 1) cap) (n - 1) (xs.take (i * 3) ++ xs.drop (j * 3)) ∧ (w'.os = w.os ∧ w'.tape = w.tape ∧ w'.output = w.output ∧ w.heap.size ≤ w'.heap.size) ∧ ∀ k, k ≠ g → w'.heap[k]? = w.heap[k]? := by
 have hl : xs.length = n * 3 := h.1
 have hu48 := Tryz.underlying48
 have hu22 := Tryz.underlying22
 obtain ⟨i0, hi0, hz1⟩ : ∃ i0, Tryz.prog.info? 48 = some i0 ∧ i0.size = 3 := ⟨(Tryz.prog.info? 48).get (by kernel_rfl), (Option.some_get _).symm, by kernel_rfl⟩
 have v23 : ∀ w, (zeroValue 48).run Tryz.prog w = .ok (.agg #[.int .i64 0, .int .i64 0, .int .i64 0]) w := by intro w; first | kernel_rfl | rfl
 obtain ⟨news, hnews⟩ : ∃ news, news = xs.drop (j * 3) := ⟨_, rfl⟩
 have hlen : news.length = (n - j) * 3 := by rw [hnews, List.length_drop, hl]; omega
 obtain ⟨A, hA, hsrc⟩ : ∃ A : Addr, (if cap = j then (some (⟨g, 0, none⟩ : Addr)) else some ⟨g, j * 3, none⟩) = some A ∧ Hid (∀ t u, news[t]? = some u → w.drew.cell? (A.add t) = some u) := by
  by_cases hc : cap = j
  · refine ⟨⟨g, 0, none⟩, by simp [hc], fun t u hu => ?_⟩
    have h0 : news.length = 0 := by rw [hlen]; omega
    rw [List.length_eq_zero_iff.1 h0] at hu
    simp at hu
  · refine ⟨⟨g, j * 3, none⟩, by simp [hc], fun t u hu => ?_⟩
    have ht := (List.getElem?_eq_some_iff.1 hu).1
    rw [Addr.add_lit]
    show w.cell? _ = some u
    rw [World.ownsRow.cellAt h _ (by omega), ← hu, hnews, List.getElem?_drop]
 have s1 : Hid (news.length = (n - j) * 3) := hlen
 have s2 : Hid (∀ u ∈ news, u.oneCell' = true) := fun u hu => h1 u (by rw [hnews] at hu; exact List.mem_of_mem_drop hu)
 have s3 : Hid (∀ t, t < news.length → (w.drew.cell? ⟨g, 0 + i * 3 + t, none⟩).isSome = true ∧ w.drew.frozen? ⟨g, 0 + i * 3 + t, none⟩ = false) := by
  intro t ht
  refine ⟨?_, World.ownsRow.frozenAt h _⟩
  show (w.cell? _).isSome = true
  rw [World.ownsRow.cellAt h _ (by omega), List.getElem?_eq_getElem (by omega)]
  rfl
 obtain ⟨W1, hW1⟩ : ∃ W1, W1 = w.drew.setCells g (0 + i * 3) news := ⟨_, rfl⟩
 have hown : W1.ownsRow 0 48 3 (.slice (some ⟨g, 0, none⟩) n cap) n (xs.take (i * 3) ++ news ++ xs.drop (i * 3 + news.length)) := by
  rw [hW1, Nat.zero_add]
  exact own_setCells news w.drew xs (i * 3) h (by omega)
 have hcl : ∀ ty, (Builtin.clear_ #[22] ty #[.slice (some ⟨g, (i + (n - j)) * 3, none⟩) (n - (i + (n - j))) (cap - (i + (n - j)))]).run Tryz.prog W1 = .ok (.tuple #[]) (W1.setCells g ((i + (n - j)) * 3) [.int .i64 0, .int .i64 0, .int .i64 0]) := by
  intro ty
  rw [show n - (i + (n - j)) = 1 by omega]
  exact run_clear_one W1 _ _ ty (.agg #[.int .i64 0, .int .i64 0, .int .i64 0]) hu22 v23 (by intro v hv; simp [Value.cells] at hv; subst hv; rfl) g _ _
   (fun t ht => by
     have ht3 : t < 3 := ht
     rw [World.ownsRow.cellAt hown _ (by omega), List.getElem?_eq_getElem (by have := hown.1; omega)]; rfl) (fun t ht => World.ownsRow.frozenAt hown _)
 have X : Aside (W1.ownsRow 0 48 3 (.slice (some ⟨g, 0, none⟩) n cap) n (xs.take (i * 3) ++ news ++ xs.drop (i * 3 + news.length))) := hown
 have hW : Hid (W1 = w.drew.setCells g (0 + i * 3) news) := hW1
 have hN : Hid (news = xs.drop (j * 3)) := hnews
 have hic : i ≤ cap := by omega
 have hjc : j ≤ cap := by omega
 have hij : i ≤ j := by omega
 have hjn : j ≤ n := by omega
 have mixed : Tryz.prog.follows .mixedOrders = true := by kernel_rfl
 have hE : ((i : Int) == (j : Int)) = false := by simp; omega
 clear hW1 hown hnews hlen
 have HJ := Aside0.mk hj
 clear hj
 have H0 := Aside0.mk h
 have H1 := Aside0.mk h1
 clear h h1
 go_enter Tryz.func62, Tryz.ntmps62
 go_wp2_with fail
 go_region_law_o (refine step_append_room rfl (.tmp 22) (.tmp 25) 22 rfl 48 i0 3 hu22 hi0 hz1 g 0 i cap (by simp [Act.eval, Act.put]) A (n - j) (cap - j) news (by simp [Act.eval, Act.put]) s1.out hsrc.out s2.out (by omega) s3.out ?_; rw [← hW.out])
 go_wp2
 all_goals first | (exfalso; have := HJ.out; omega) | skip
 go_ret
 have hw1 := X.out
 have hj := HJ.out
 have hl2 : news.length = (n - j) * 3 := s1.out
 have h2 := own_cut (own_setCells [.int .i64 0, .int .i64 0, .int .i64 0] W1 _ ((i + (n - j)) * 3) hw1 (by rw [hw1.1]; simp; omega)) (show n - 1 ≤ n by omega)
 refine ⟨by rw [show i + (n - j) = n - 1 by omega]; rfl, ?_, ?_⟩
 · have e : (List.take ((i + (n - j)) * 3) (xs.take (i * 3) ++ news ++ xs.drop (i * 3 + news.length)) ++ ([.int .i64 0, .int .i64 0, .int .i64 0] : List Value) ++ List.drop ((i + (n - j)) * 3 + 3) (xs.take (i * 3) ++ news ++ xs.drop (i * 3 + news.length))).take ((n - 1) * 3) = xs.take (i * 3) ++ xs.drop (j * 3) := by
    have e1 : List.take ((i + (n - j)) * 3) (xs.take (i * 3) ++ news ++ xs.drop (i * 3 + news.length)) = xs.take (i * 3) ++ news := by
     rw [List.take_append_of_le_length (by simp; omega), List.take_of_length_le (by simp; omega)]
    rw [e1, List.append_assoc, List.take_append_of_le_length (by simp; omega), List.take_of_length_le (by simp; omega), hN.out]
   rw [← e]
   exact h2
 · rw [hW.out]
   obtain ⟨⟨p1, p2, p3, p4⟩, p5⟩ := setCells_stay (g := g) [.int .i64 0, .int .i64 0, .int .i64 0] ((i + (n - j)) * 3) (w.drew.setCells g (0 + i * 3) news)
   obtain ⟨⟨r1, r2, r3, r4⟩, r5⟩ := setCells_stay (g := g) news (0 + i * 3) w.drew
   exact ⟨⟨p1.trans r1, p2.trans r2, p3.trans r3, Nat.le_trans r4 p4⟩, fun k hk => (p5 k hk).trans (r5 k hk)⟩
theorem del62.ok : DelOk Tryz.prog 62 48 3 :=
 ⟨⟨Tryz.f62, Tryz.func62, by kernel_rfl, by kernel_rfl⟩, fun b cap n i j xs w h h1 hj hi hn hm hc => del62.own_calls b cap n i j xs w h h1 hj hi hn hm hc⟩
theorem tab_ok : tab.ok Tryz.prog Cx = true := by kernel_rfl
theorem tab_fns : tab.F.map (fun x => Tryz.prog.funcs[x.1]?) = tab.F.map (fun x => some x.2) := by kernel_rfl
theorem tab_names : tab.F.all (fun x => !(x.2.name == "runtime.NumGoroutine")) = true := by kernel_rfl
theorem fits : Fits Tryz.prog Cx := Tab.fits tab_ok tab_fns tab_names (by kernel_rfl) (by
 intro g e sz h
 simp only [dels, List.mem_cons, List.not_mem_nil, or_false, Prod.mk.injEq] at h
 obtain ⟨rfl, rfl, rfl⟩ := h
 exact del62.ok)
theorem clone63 (Γ : Gr) : RetAt Tryz.prog Cx Γ 63 (clonePr (Cx.sig 63) 48 (.pair (.int .i64) (.pair (.int .i64) (.int .i64))) 5864062014805) :=
 clone_at fits (fn := Tryz.f63) (by kernel_rfl) (by kernel_rfl) (by kernel_rfl) (fun x => by kernel_rfl) (by kernel_rfl)
def lays171_ren : Go.Shelf.Ren := ⟨fun | 171 => 64 | 243 => 82 | 246 => 101 | 283 => 112 | 284 => 113 | 285 => 114 | 286 => 115 | 129 => 127 | 317 => 126 | 318 => 128 | 319 => 129 | 320 => 130 | 337 => 136 | 338 => 137 | n => n, fun | 3 => 3 | 9 => 9 | 2 => 2 | 4 => 4 | 171 => 122 | 0 => 0 | 53 => 74 | 37 => 56 | 5 => 5 | 173 => 125 | 212 => 134 | 51 => 135 | 20 => 20 | 213 => 136 | 46 => 121 | 232 => 156 | 233 => 157 | n => n, fun | 17 => 1 | 18 => 6 | 19 => 7 | n => n⟩
theorem lays171 : Go.Proofs.LaysM.n171 Tryz.prog lays171_ren where
  mixed := by kernel_rfl
  f129 := Tryz.func127.trans (congrArg some (by kernel_rfl))
  f171 := Tryz.func64.trans (congrArg some (by kernel_rfl))
  f243 := Tryz.func82.trans (congrArg some (by kernel_rfl))
  f246 := Tryz.func101.trans (congrArg some (by kernel_rfl))
  f283 := Tryz.func112.trans (congrArg some (by kernel_rfl))
  f284 := Tryz.func113.trans (congrArg some (by kernel_rfl))
  f285 := Tryz.func114.trans (congrArg some (by kernel_rfl))
  f286 := Tryz.func115.trans (congrArg some (by kernel_rfl))
  f317 := Tryz.func126.trans (congrArg some (by kernel_rfl))
  f318 := Tryz.func128.trans (congrArg some (by kernel_rfl))
  f319 := Tryz.func129.trans (congrArg some (by kernel_rfl))
  f320 := Tryz.func130.trans (congrArg some (by kernel_rfl))
  f337 := Tryz.func136.trans (congrArg some (by kernel_rfl))
  f338 := Tryz.func137.trans (congrArg some (by kernel_rfl))
  t0 := Tryz.underlying0
  a0 := Tryz.isAgg0
  z0 := Tryz.sizeOf0
  v0 := Tryz.zeroValue0
  t2 := Tryz.underlying2
  a2 := Tryz.isAgg2
  z2 := Tryz.sizeOf2
  v2 := Tryz.zeroValue2
  t3 := Tryz.underlying3
  a3 := Tryz.isAgg3
  z3 := Tryz.sizeOf3
  v3 := Tryz.zeroValue3
  t4 := Tryz.underlying4
  a4 := Tryz.isAgg4
  z4 := Tryz.sizeOf4
  v4 := Tryz.zeroValue4
  t5 := Tryz.underlying5
  a5 := Tryz.isAgg5
  z5 := Tryz.sizeOf5
  v5 := Tryz.zeroValue5
  t9 := Tryz.underlying9
  a9 := Tryz.isAgg9
  z9 := Tryz.sizeOf9
  v9 := Tryz.zeroValue9
  t20 := Tryz.underlying20
  a20 := Tryz.isAgg20
  z20 := Tryz.sizeOf20
  v20 := Tryz.zeroValue20
  t37 := Tryz.underlying56
  a37 := Tryz.isAgg56
  z37 := Tryz.sizeOf56
  v37 := Tryz.zeroValue56
  t46 := Tryz.underlying121
  a46 := Tryz.isAgg121
  z46 := Tryz.sizeOf121
  v46 := Tryz.zeroValue121
  t51 := Tryz.underlying135
  a51 := Tryz.isAgg135
  z51 := Tryz.sizeOf135
  v51 := Tryz.zeroValue135
  t53 := Tryz.underlying74
  a53 := Tryz.isAgg74
  z53 := Tryz.sizeOf74
  v53 := Tryz.zeroValue74
  t171 := Tryz.underlying122
  a171 := Tryz.isAgg122
  z171 := Tryz.sizeOf122
  v171 := Tryz.zeroValue122
  t173 := Tryz.underlying125
  a173 := Tryz.isAgg125
  z173 := Tryz.sizeOf125
  v173 := Tryz.zeroValue125
  t212 := Tryz.underlying134
  a212 := Tryz.isAgg134
  z212 := Tryz.sizeOf134
  v212 := Tryz.zeroValue134
  t213 := Tryz.underlying136
  a213 := Tryz.isAgg136
  z213 := Tryz.sizeOf136
  t232 := Tryz.underlying156
  a232 := Tryz.isAgg156
  z232 := Tryz.sizeOf156
  v232 := Tryz.zeroValue156
  t233 := Tryz.underlying157
  a233 := Tryz.isAgg157
  z233 := Tryz.sizeOf157
  v233 := Tryz.zeroValue157
  g17 := by kernel_rfl
  g18 := by kernel_rfl
  g19 := by kernel_rfl
  i0 := by kernel_rfl
  i2 := by kernel_rfl
  i3 := by kernel_rfl
  i4 := by kernel_rfl
  i5 := by kernel_rfl
  i9 := by kernel_rfl
  i20 := by kernel_rfl
  i37 := by kernel_rfl
  i46 := by kernel_rfl
  i51 := by kernel_rfl
  i53 := by kernel_rfl
  i171 := by kernel_rfl
  i173 := by kernel_rfl
  i212 := by kernel_rfl
  i232 := by kernel_rfl
  i233 := by kernel_rfl
  m17 := by kernel_rfl
  m18 := by kernel_rfl
  m19 := by kernel_rfl
def lays156_ren : Go.Shelf.Ren := ⟨fun | 156 => 44 | 165 => 65 | 166 => 66 | 169 => 67 | 240 => 83 | 241 => 84 | 276 => 102 | 277 => 103 | n => n, fun | 31 => 63 | 9 => 9 | 3 => 3 | 4 => 4 | 0 => 0 | 20 => 20 | 72 => 85 | 76 => 89 | 70 => 83 | 37 => 56 | 75 => 88 | 127 => 103 | 164 => 114 | 5 => 5 | 80 => 91 | n => n, fun | n => n⟩
theorem lays156 : Go.Proofs.Lays.n156 Tryz.prog lays156_ren where
  mixed := by kernel_rfl
  f156 := Tryz.func44.trans (congrArg some (by kernel_rfl))
  f165 := Tryz.func65.trans (congrArg some (by kernel_rfl))
  f166 := Tryz.func66.trans (congrArg some (by kernel_rfl))
  f169 := Tryz.func67.trans (congrArg some (by kernel_rfl))
  f240 := Tryz.func83.trans (congrArg some (by kernel_rfl))
  f241 := Tryz.func84.trans (congrArg some (by kernel_rfl))
  f276 := Tryz.func102.trans (congrArg some (by kernel_rfl))
  f277 := Tryz.func103.trans (congrArg some (by kernel_rfl))
  t0 := Tryz.underlying0
  a0 := Tryz.isAgg0
  z0 := Tryz.sizeOf0
  v0 := Tryz.zeroValue0
  t3 := Tryz.underlying3
  a3 := Tryz.isAgg3
  z3 := Tryz.sizeOf3
  v3 := Tryz.zeroValue3
  t4 := Tryz.underlying4
  a4 := Tryz.isAgg4
  z4 := Tryz.sizeOf4
  v4 := Tryz.zeroValue4
  t9 := Tryz.underlying9
  a9 := Tryz.isAgg9
  z9 := Tryz.sizeOf9
  v9 := Tryz.zeroValue9
  t20 := Tryz.underlying20
  a20 := Tryz.isAgg20
  z20 := Tryz.sizeOf20
  v20 := Tryz.zeroValue20
  t31 := Tryz.underlying63
  a31 := Tryz.isAgg63
  z31 := Tryz.sizeOf63
  v31 := Tryz.zeroValue63
  t37 := Tryz.underlying56
  a37 := Tryz.isAgg56
  z37 := Tryz.sizeOf56
  v37 := Tryz.zeroValue56
  t70 := Tryz.underlying83
  a70 := Tryz.isAgg83
  z70 := Tryz.sizeOf83
  v70 := Tryz.zeroValue83
  t72 := Tryz.underlying85
  a72 := Tryz.isAgg85
  z72 := Tryz.sizeOf85
  v72 := Tryz.zeroValue85
  t75 := Tryz.underlying88
  a75 := Tryz.isAgg88
  z75 := Tryz.sizeOf88
  v75 := Tryz.zeroValue88
  t76 := Tryz.underlying89
  a76 := Tryz.isAgg89
  z76 := Tryz.sizeOf89
  v76 := Tryz.zeroValue89
  t127 := Tryz.underlying103
  a127 := Tryz.isAgg103
  z127 := Tryz.sizeOf103
  v127 := Tryz.zeroValue103
  t164 := Tryz.underlying114
  a164 := Tryz.isAgg114
  z164 := Tryz.sizeOf114
  v164 := Tryz.zeroValue114
def lays146_ren : Go.Shelf.Ren := ⟨fun | 146 => 52 | 221 => 72 | 268 => 88 | 138 => 89 | 143 => 90 | 195 => 105 | 197 => 106 | 218 => 107 | 219 => 108 | 260 => 116 | 217 => 117 | 225 => 118 | 224 => 119 | 267 => 120 | 266 => 131 | 314 => 132 | n => n, fun | 9 => 9 | 31 => 63 | 3 => 3 | 4 => 4 | 0 => 0 | 105 => 117 | 21 => 21 | 5 => 5 | 46 => 121 | 119 => 138 | 139 => 141 | 138 => 140 | 146 => 142 | 51 => 135 | n => n, fun | 1 => 0 | 3 => 2 | 4 => 3 | n => n⟩
theorem lays146 : Go.Proofs.LaysM.n146 Tryz.prog lays146_ren where
  mixed := by kernel_rfl
  f138 := Tryz.func89.trans (congrArg some (by kernel_rfl))
  f143 := Tryz.func90.trans (congrArg some (by kernel_rfl))
  f146 := Tryz.func52.trans (congrArg some (by kernel_rfl))
  f195 := Tryz.func105.trans (congrArg some (by kernel_rfl))
  f197 := Tryz.func106.trans (congrArg some (by kernel_rfl))
  f217 := Tryz.func117.trans (congrArg some (by kernel_rfl))
  f218 := Tryz.func107.trans (congrArg some (by kernel_rfl))
  f219 := Tryz.func108.trans (congrArg some (by kernel_rfl))
  f221 := Tryz.func72.trans (congrArg some (by kernel_rfl))
  f224 := Tryz.func119.trans (congrArg some (by kernel_rfl))
  f225 := Tryz.func118.trans (congrArg some (by kernel_rfl))
  f260 := Tryz.func116.trans (congrArg some (by kernel_rfl))
  f266 := Tryz.func131.trans (congrArg some (by kernel_rfl))
  f267 := Tryz.func120.trans (congrArg some (by kernel_rfl))
  f268 := Tryz.func88.trans (congrArg some (by kernel_rfl))
  f314 := Tryz.func132.trans (congrArg some (by kernel_rfl))
  t0 := Tryz.underlying0
  a0 := Tryz.isAgg0
  z0 := Tryz.sizeOf0
  v0 := Tryz.zeroValue0
  t3 := Tryz.underlying3
  a3 := Tryz.isAgg3
  z3 := Tryz.sizeOf3
  v3 := Tryz.zeroValue3
  t4 := Tryz.underlying4
  a4 := Tryz.isAgg4
  z4 := Tryz.sizeOf4
  v4 := Tryz.zeroValue4
  t5 := Tryz.underlying5
  a5 := Tryz.isAgg5
  z5 := Tryz.sizeOf5
  v5 := Tryz.zeroValue5
  t9 := Tryz.underlying9
  a9 := Tryz.isAgg9
  z9 := Tryz.sizeOf9
  v9 := Tryz.zeroValue9
  t21 := Tryz.underlying21
  a21 := Tryz.isAgg21
  z21 := Tryz.sizeOf21
  v21 := Tryz.zeroValue21
  t31 := Tryz.underlying63
  a31 := Tryz.isAgg63
  z31 := Tryz.sizeOf63
  v31 := Tryz.zeroValue63
  t46 := Tryz.underlying121
  a46 := Tryz.isAgg121
  z46 := Tryz.sizeOf121
  v46 := Tryz.zeroValue121
  t51 := Tryz.underlying135
  a51 := Tryz.isAgg135
  z51 := Tryz.sizeOf135
  v51 := Tryz.zeroValue135
  t105 := Tryz.underlying117
  a105 := Tryz.isAgg117
  z105 := Tryz.sizeOf117
  v105 := Tryz.zeroValue117
  t119 := Tryz.underlying138
  a119 := Tryz.isAgg138
  z119 := Tryz.sizeOf138
  t138 := Tryz.underlying140
  a138 := Tryz.isAgg140
  z138 := Tryz.sizeOf140
  v138 := Tryz.zeroValue140
  t139 := Tryz.underlying141
  a139 := Tryz.isAgg141
  z139 := Tryz.sizeOf141
  v139 := Tryz.zeroValue141
  t146 := Tryz.underlying142
  a146 := Tryz.isAgg142
  z146 := Tryz.sizeOf142
  v146 := Tryz.zeroValue142
  g1 := by kernel_rfl
  g3 := by kernel_rfl
  g4 := by kernel_rfl
  i0 := by kernel_rfl
  i3 := by kernel_rfl
  i4 := by kernel_rfl
  i5 := by kernel_rfl
  i9 := by kernel_rfl
  i21 := by kernel_rfl
  i31 := by kernel_rfl
  i46 := by kernel_rfl
  i51 := by kernel_rfl
  i105 := by kernel_rfl
  i138 := by kernel_rfl
  i139 := by kernel_rfl
  i146 := by kernel_rfl
  m1 := by kernel_rfl
  s1_3 := fun w h => Go.Proofs.cell_of_shapedOpen_int (zero := #[.int .i64 0]) (t := 3) h (of_decide_eq_true (by kernel_rfl)) (by kernel_rfl) rfl (by kernel_rfl) (by kernel_rfl) Tryz.underlying3
  m3 := by kernel_rfl
  m4 := by kernel_rfl
def lays172_ren : Go.Shelf.Ren := ⟨fun | 172 => 91 | 244 => 109 | 245 => 110 | 247 => 121 | 279 => 122 | 280 => 123 | 281 => 124 | 282 => 125 | 287 => 133 | 316 => 134 | 171 => 64 | 205 => 135 | 321 => 138 | 322 => 139 | 243 => 82 | 246 => 101 | 283 => 112 | 284 => 113 | 285 => 114 | 286 => 115 | 129 => 127 | 317 => 126 | 318 => 128 | 319 => 129 | 320 => 130 | 337 => 136 | 338 => 137 | n => n, fun | 9 => 9 | 3 => 3 | 75 => 88 | 76 => 89 | 4 => 4 | 5 => 5 | 167 => 127 | 37 => 56 | 0 => 0 | 85 => 128 | 2 => 2 | 168 => 130 | 53 => 74 | 175 => 144 | 46 => 121 | 210 => 148 | 127 => 103 | 145 => 155 | 143 => 153 | 21 => 21 | 171 => 122 | 173 => 125 | 212 => 134 | 51 => 135 | 20 => 20 | 213 => 136 | 232 => 156 | 233 => 157 | 80 => 91 | n => n, fun | 15 => 4 | 16 => 5 | 17 => 1 | 18 => 6 | 19 => 7 | n => n⟩
theorem lays172 : Go.Proofs.LaysC.n172 Tryz.prog lays172_ren where
  mixed := by kernel_rfl
  f129 := Tryz.func127.trans (congrArg some (by kernel_rfl))
  f171 := Tryz.func64.trans (congrArg some (by kernel_rfl))
  f172 := Tryz.func91.trans (congrArg some (by kernel_rfl))
  f205 := Tryz.func135.trans (congrArg some (by kernel_rfl))
  f243 := Tryz.func82.trans (congrArg some (by kernel_rfl))
  f244 := Tryz.func109.trans (congrArg some (by kernel_rfl))
  f245 := Tryz.func110.trans (congrArg some (by kernel_rfl))
  f246 := Tryz.func101.trans (congrArg some (by kernel_rfl))
  f247 := Tryz.func121.trans (congrArg some (by kernel_rfl))
  f279 := Tryz.func122.trans (congrArg some (by kernel_rfl))
  f280 := Tryz.func123.trans (congrArg some (by kernel_rfl))
  f281 := Tryz.func124.trans (congrArg some (by kernel_rfl))
  f282 := Tryz.func125.trans (congrArg some (by kernel_rfl))
  f283 := Tryz.func112.trans (congrArg some (by kernel_rfl))
  f284 := Tryz.func113.trans (congrArg some (by kernel_rfl))
  f285 := Tryz.func114.trans (congrArg some (by kernel_rfl))
  f286 := Tryz.func115.trans (congrArg some (by kernel_rfl))
  f287 := Tryz.func133.trans (congrArg some (by kernel_rfl))
  f316 := Tryz.func134.trans (congrArg some (by kernel_rfl))
  f317 := Tryz.func126.trans (congrArg some (by kernel_rfl))
  f318 := Tryz.func128.trans (congrArg some (by kernel_rfl))
  f319 := Tryz.func129.trans (congrArg some (by kernel_rfl))
  f320 := Tryz.func130.trans (congrArg some (by kernel_rfl))
  f321 := Tryz.func138.trans (congrArg some (by kernel_rfl))
  f322 := Tryz.func139.trans (congrArg some (by kernel_rfl))
  f337 := Tryz.func136.trans (congrArg some (by kernel_rfl))
  f338 := Tryz.func137.trans (congrArg some (by kernel_rfl))
  t0 := Tryz.underlying0
  a0 := Tryz.isAgg0
  z0 := Tryz.sizeOf0
  v0 := Tryz.zeroValue0
  t2 := Tryz.underlying2
  a2 := Tryz.isAgg2
  z2 := Tryz.sizeOf2
  v2 := Tryz.zeroValue2
  t3 := Tryz.underlying3
  a3 := Tryz.isAgg3
  z3 := Tryz.sizeOf3
  v3 := Tryz.zeroValue3
  t4 := Tryz.underlying4
  a4 := Tryz.isAgg4
  z4 := Tryz.sizeOf4
  v4 := Tryz.zeroValue4
  t5 := Tryz.underlying5
  a5 := Tryz.isAgg5
  z5 := Tryz.sizeOf5
  v5 := Tryz.zeroValue5
  t9 := Tryz.underlying9
  a9 := Tryz.isAgg9
  z9 := Tryz.sizeOf9
  v9 := Tryz.zeroValue9
  t20 := Tryz.underlying20
  a20 := Tryz.isAgg20
  z20 := Tryz.sizeOf20
  v20 := Tryz.zeroValue20
  t21 := Tryz.underlying21
  a21 := Tryz.isAgg21
  z21 := Tryz.sizeOf21
  v21 := Tryz.zeroValue21
  t37 := Tryz.underlying56
  a37 := Tryz.isAgg56
  z37 := Tryz.sizeOf56
  v37 := Tryz.zeroValue56
  t46 := Tryz.underlying121
  a46 := Tryz.isAgg121
  z46 := Tryz.sizeOf121
  v46 := Tryz.zeroValue121
  t51 := Tryz.underlying135
  a51 := Tryz.isAgg135
  z51 := Tryz.sizeOf135
  v51 := Tryz.zeroValue135
  t53 := Tryz.underlying74
  a53 := Tryz.isAgg74
  z53 := Tryz.sizeOf74
  v53 := Tryz.zeroValue74
  t75 := Tryz.underlying88
  a75 := Tryz.isAgg88
  z75 := Tryz.sizeOf88
  v75 := Tryz.zeroValue88
  t76 := Tryz.underlying89
  a76 := Tryz.isAgg89
  z76 := Tryz.sizeOf89
  v76 := Tryz.zeroValue89
  t85 := Tryz.underlying128
  a85 := Tryz.isAgg128
  z85 := Tryz.sizeOf128
  v85 := Tryz.zeroValue128
  t127 := Tryz.underlying103
  a127 := Tryz.isAgg103
  z127 := Tryz.sizeOf103
  v127 := Tryz.zeroValue103
  t143 := Tryz.underlying153
  a143 := Tryz.isAgg153
  z143 := Tryz.sizeOf153
  v143 := Tryz.zeroValue153
  t145 := Tryz.underlying155
  a145 := Tryz.isAgg155
  z145 := Tryz.sizeOf155
  v145 := Tryz.zeroValue155
  t167 := Tryz.underlying127
  a167 := Tryz.isAgg127
  z167 := Tryz.sizeOf127
  v167 := Tryz.zeroValue127
  t168 := Tryz.underlying130
  a168 := Tryz.isAgg130
  z168 := Tryz.sizeOf130
  v168 := Tryz.zeroValue130
  t171 := Tryz.underlying122
  a171 := Tryz.isAgg122
  z171 := Tryz.sizeOf122
  v171 := Tryz.zeroValue122
  t173 := Tryz.underlying125
  a173 := Tryz.isAgg125
  z173 := Tryz.sizeOf125
  v173 := Tryz.zeroValue125
  t175 := Tryz.underlying144
  a175 := Tryz.isAgg144
  z175 := Tryz.sizeOf144
  v175 := Tryz.zeroValue144
  t210 := Tryz.underlying148
  a210 := Tryz.isAgg148
  z210 := Tryz.sizeOf148
  v210 := Tryz.zeroValue148
  t212 := Tryz.underlying134
  a212 := Tryz.isAgg134
  z212 := Tryz.sizeOf134
  v212 := Tryz.zeroValue134
  t213 := Tryz.underlying136
  a213 := Tryz.isAgg136
  z213 := Tryz.sizeOf136
  t232 := Tryz.underlying156
  a232 := Tryz.isAgg156
  z232 := Tryz.sizeOf156
  v232 := Tryz.zeroValue156
  t233 := Tryz.underlying157
  a233 := Tryz.isAgg157
  z233 := Tryz.sizeOf157
  v233 := Tryz.zeroValue157
  g15 := by kernel_rfl
  g16 := by kernel_rfl
  g17 := by kernel_rfl
  g18 := by kernel_rfl
  g19 := by kernel_rfl
  t80 := Tryz.underlying91
  a80 := Tryz.isAgg91
  z80 := Tryz.sizeOf91
  v80 := Tryz.zeroValue91
  i0 := by kernel_rfl
  i2 := by kernel_rfl
  i3 := by kernel_rfl
  i4 := by kernel_rfl
  i5 := by kernel_rfl
  i9 := by kernel_rfl
  i20 := by kernel_rfl
  i21 := by kernel_rfl
  i37 := by kernel_rfl
  i46 := by kernel_rfl
  i51 := by kernel_rfl
  i53 := by kernel_rfl
  i75 := by kernel_rfl
  i76 := by kernel_rfl
  i80 := by kernel_rfl
  i85 := by kernel_rfl
  i127 := by kernel_rfl
  i143 := by kernel_rfl
  i145 := by kernel_rfl
  i167 := by kernel_rfl
  i168 := by kernel_rfl
  i171 := by kernel_rfl
  i173 := by kernel_rfl
  i175 := by kernel_rfl
  i210 := by kernel_rfl
  i212 := by kernel_rfl
  i232 := by kernel_rfl
  i233 := by kernel_rfl
  m15 := by kernel_rfl
  m16 := by kernel_rfl
  m17 := by kernel_rfl
  m18 := by kernel_rfl
  m19 := by kernel_rfl
  c0 := by kernel_rfl
  c2 := by kernel_rfl
  c3 := by kernel_rfl
  c4 := by kernel_rfl
  c5 := by kernel_rfl
  c9 := by kernel_rfl
  c20 := by kernel_rfl
  c21 := by kernel_rfl
  c37 := by kernel_rfl
  c46 := by kernel_rfl
  c51 := by kernel_rfl
  c53 := by kernel_rfl
  c75 := by kernel_rfl
  c76 := by kernel_rfl
  c80 := by kernel_rfl
  c85 := by kernel_rfl
  c127 := by kernel_rfl
  c143 := by kernel_rfl
  c145 := by kernel_rfl
  c167 := by kernel_rfl
  c168 := by kernel_rfl
  c171 := by kernel_rfl
  c173 := by kernel_rfl
  c175 := by kernel_rfl
  c210 := by kernel_rfl
  c212 := by kernel_rfl
  c213 := by kernel_rfl
  c232 := by kernel_rfl
  c233 := by kernel_rfl
theorem extra156 : Go.Proofs.Builder.Extra Tryz.prog lays156_ren where
  sizeBuilder := by kernel_rfl
  liesBuilder := by kernel_rfl
  t5 := Tryz.underlying5
  a5 := Tryz.isAgg5
  z5 := Tryz.sizeOf5
  v5 := Tryz.zeroValue5
  infoByte := by kernel_rfl
  cellsByte := by kernel_rfl
  sizeByte := by kernel_rfl
  neB5 := by decide
theorem join_size (xs : List ByteArray) (s : ByteArray) : (joinB xs s).size = (Lib.join (xs.map (·.data.toList)) s.data.toList).length := by simp [joinB, ByteArray.size]
theorem hand44 : RetAt Tryz.prog Cx (doorGr Tryz.prog) 44 (joinPr (Cx.sig 44) 9) :=
 hand_join (by kernel_rfl) fun A c xs s w hc h1 h2 hx _ => by
  cases xs with
  | nil => exact (Go.Proofs.Any.strings_Join_none lays156 extra156 A c s w).mono fun e w' ⟨he, hw⟩ => ⟨he, hw ▸ Below.refl _ _⟩
  | cons x l =>
   rcases hx with hx | ⟨g, o, rfl, hg, hcell⟩
   · cases hx
   · rw [join_size] at h2
     exact Go.Proofs.Any.strings_Join lays156 extra156 g o c (x :: l) s w hcell hg h1 hc h2
theorem hand52 : RetAt Tryz.prog Cx (doorGr Tryz.prog) 52 (splitPr (Cx.sig 52) 9) :=
 hand_split (by kernel_rfl) fun s t w h1 h2 hT => by
  obtain ⟨m, hm⟩ := DoorW.num hT
  have hlen := Lib.splitB_all t h2 0 _ s rfl
  have hle := Lib.countB_le t h2 s.size s (Nat.le_refl _)
  refine (Go.Proofs.Any.strings_Split { lays146 with } lays146.i9 s t m w h1 hm h2).mono ?_
  rintro e w' ⟨rfl, rfl⟩
  refine ⟨w.heap.size, Lib.countB s t + 1, by unfold splitsB; rw [hlen], by unfold splitsB; rw [hlen]; exact Nat.le_refl _, (Below.refl _ _).alloc (Nat.le_refl _) _, Nat.le_refl _, ?_, fun j y hj => ?_⟩
  · exact (Array.getElem?_eq_some_iff.1 (heap_alloc_new w _)).1
  · rw [cell_of_row _ _ _ _ _ _ (heap_alloc_new w _)]
    unfold splitsB at hj
    simp [hj]
theorem hand64 : RetAt Tryz.prog Cx (doorGr Tryz.prog) 64 (itoaPr (Cx.sig 64)) :=
 hand_itoa (by kernel_rfl) fun n w h0 h1 hT => (Go.Proofs.Any.strconv_Itoa lays171 n h0 h1 w (DoorW.tab hT)).mono (by
  rintro e w' ⟨rfl, k, os, rfl⟩
  exact ⟨rfl, Lib.below_grow _ _ (Nat.le_refl _) k os⟩)
section
open Go.Deep
set_option maxHeartbeats 8000000
theorem number_calls (a0 : ByteArray) (r1 : Int) (r2 : Bool) (w : World) (hT : DoorW Tryz.prog w) (h : handNumber a0 = some (r1, r2)) :
  Calls Tryz.prog 73 #[.string a0] w fun e w' => e = .returned (.tuple #[.int .i64 r1, .bool r2]) ∧ Below w.heap.size w w' := by
 unfold handNumber numB at h
 split at h
 rotate_left
 · cases h
 rename_i hc
 obtain ⟨ht, ⟨t1, p1, h1⟩, ⟨t2, p2, h2⟩, _⟩ := hT
 cases he : Lib.atoiAll a0.data.toList
 next n =>
  rw [he] at h
  obtain ⟨n0, n1⟩ := Lib.atoiAll_bounds he
  go_enter Tryz.func73, Tryz.ntmps73
  go_wp2_with (go_at_call 91; refine (Go.Proofs.Any.strconv_Atoi_ok lays172 a0 (by omega) n he w).mono ?_; rintro e W1 ⟨rfl, hW⟩)
  have hb1 : Below w.heap.size w W1 := by
    rcases hW with rfl | ⟨t, rfl⟩
    · exact Below.refl _ _
    · exact Lib.bytesWorld_below _ _ _
  clear hW
  have ht1 := Lib.tabBelow_of_tabIs ht _ hb1
  by_cases hi : Lib.itoa n = a0.data.toList
  · rw [if_pos hi] at h
    cases h
    have e0 : (⟨(Lib.itoa r1).toArray⟩ : ByteArray) = a0 := by apply ByteArray.ext; simp [hi]
    go_wp2_with (go_at_call 64; refine (Go.Proofs.Any.strconv_Itoa lays171 r1 n0 n1 W1 ht1).mono ?_; rintro e W2 ⟨rfl, k, os, rfl⟩)
    go_ret2
    exact ⟨rfl, hb1.trans ((Lib.below_grow _ _ (Nat.le_refl _) k os).mono hb1.size)⟩
  · rw [if_neg hi] at h
    cases h
    have tl : a0.toList = a0.data.toList := by
      obtain ⟨⟨l⟩⟩ := a0
      exact ByteArray.toList_mk _
    have e0 : (Lib.itoa n == a0.toList) = false := by
      rw [tl]
      simpa using hi
    clear tl
    go_wp2_with (go_at_call 64; refine (Go.Proofs.Any.strconv_Itoa lays171 n n0 n1 W1 ht1).mono ?_; rintro e W2 ⟨rfl, k, os, rfl⟩)
    go_ret2
    exact ⟨rfl, hb1.trans ((Lib.below_grow _ _ (Nat.le_refl _) k os).mono hb1.size)⟩
 next =>
  rw [he] at h
  cases h
  go_enter Tryz.func73, Tryz.ntmps73
  go_wp2_with (go_at_call 91; refine (Go.Proofs.Any.strconv_Atoi_syntax_var lays172 a0 hc he t1 p1 w h1).mono ?_; rintro e W1 ⟨N, rfl, _, _, hb1⟩)
  go_wp2
  go_ret2
  exact ⟨rfl, hb1⟩
 next =>
  rw [he] at h
  cases h
  go_enter Tryz.func73, Tryz.ntmps73
  go_wp2_with (go_at_call 91; refine (Go.Proofs.Any.strconv_Atoi_range_var lays172 a0 hc he t2 p2 w h2).mono ?_; rintro e W1 ⟨N, rfl, _, _, hb1⟩)
  go_wp2
  go_ret2
  exact ⟨rfl, hb1⟩
end
theorem hand73 : RetAt Tryz.prog Cx (doorGr Tryz.prog) 73 (numberPr (Cx.sig 73)) :=
 hand_number (by kernel_rfl) fun s w hs hT => number_calls s (numB s).1 (numB s).2 w hT (by unfold handNumber; rw [if_pos hs])
theorem clones_ok (Γ : Gr) : ∀ g p, clonePrim tab.sig clones g = some p → RetAt Tryz.prog Cx Γ g p := by
 intro g p h'
 unfold clonePrim at h'
 split at h'
 case h_2 => cases h'
 rename_i e t lim hl
 have hm := alook_mem hl
 simp only [clones, List.mem_cons, List.not_mem_nil, or_false, Prod.mk.injEq] at hm
 obtain ⟨rfl, rfl, rfl, rfl⟩ := hm
 cases h'
 exact clone63 Γ
theorem prims_ok : ∀ g p, Cx.prim g = some p → RetAt Tryz.prog Cx (doorGr Tryz.prog) g p := by
 intro g p h
 have h0 : handPrim tab.sig hands clones g = some p := h
 unfold handPrim at h0
 split at h0
 · rename_i hh hl
   have hm := alook_mem hl
   simp only [hands, List.mem_cons, List.not_mem_nil, or_false, Prod.mk.injEq] at hm
   rcases hm with ⟨rfl, rfl⟩ | ⟨rfl, rfl⟩ | ⟨rfl, rfl⟩ | ⟨rfl, rfl⟩
   · cases h0; exact hand44
   · cases h0; exact hand52
   · cases h0; exact hand64
   · cases h0; exact hand73
 · exact clones_ok _ g p h0
end Go.Proofs.YtlibgicponpecaaGreatDoor.Ga
