-- written by a program of this session, over the form of the kit's print
import Derived.Test.YtojbcpklmegjpaaQFnVisitsChancex20
namespace Go.Proofs.Ytojbcpklmegjpaa.QFnVisitsChance
open Go.RowKit Go.Proofs.YtojbcpklmegjpaaV Go.Proofs.YtojbcpklmegjpaaW.PrintWords Go.Proofs.YtojbcpklmegjpaaW.PrintLast Go.Proofs.YtojbcpklmegjpaaW.PrintMore
attribute [local go_sem] max2_int min2_int max_two min_two max_three min_three max_four min_four   -- for this text's walks alone
set_option linter.unusedVariables false
set_option linter.unusedSimpArgs false

set_option maxHeartbeats 60000000 in
set_option maxRecDepth 100000 in
theorem laws_FnVisitsChance.seg7 : laws_FnVisitsChance.Seg7 := by
                  unfold laws_FnVisitsChance.Seg7
                  intro k A0 c0 l0 A1 c1 l1 r w t291 t292 t293 t294 t295 t296 t297 t298 t299 t300 t301 t302 t303 kj9 HJ9 kj18 HJ18 t311 t312 t313 t314 t315 t316 t317 t318 t319 t320 t321 t322 t323 t324 t325 t326 t327 t328 t329 t330 t331 t332 t333 t334 t335 t336 t337 t338 t339 t340 t341 t342 t343 t344 t345 t346 t347 t348 t349 t350 t351 t352 t353 t354 kj65 HJ65 kj92 HJ92 kj97 HJ97 kj112 HJ112 u124 u125 u126 u127 u128 u129 u130 u131 u132 u133 u134 u135 u136 u137 u138 u139 u140 u141 u142 u143 u144 u145 u146 u147 u148 u149 u150 u18 u19 u20 u21 u22 u23 u24 u25 u153 u154 u155 u156 u157 u158 u159 u160 u161 u162 u163 u164 u165 u166 u167 u168 u169 u170 u171 u172 u173 u174 u175 u176 u177 u178 u179 u180 u181 u182 u183 u184 u185 u186 u187 u188 u189 u190 u191 u192 u193 u194 u195 u196 u197 u198 u199 u200 u201 u202 u203 u204 u205 u206 u207 u208 u209 u210 u211 u212 u213 u214 u215 u216 u217 u218 u219 u220 u221 u222 u223 u224 u225 u226 u227 u228 u229 u230 u231 u232 u233 u234 u235 u236 u237 u238 u239 u240 u241 u354 u355 u356 u357 u358 u359 u360 u361 u362 u363 u364 u365 u366 u367 u368 u369 u370 u371 u372 u373 u374 u375 u376 u377 u378 u379 u380 u381 u382 u383 u384 u385 u386 u387 u388 u389 u390 u391 u392 u393 u394 u395 u396 u397 u398 u399 u400 u401 u402 u403 u404 u405 u406 u407 u408 u409 u410 u411 u412 u413 u414 u415 u416 u417 u418 u419 u420 u421 u422 u423 u424 u425 u427 u428 u429 u430 u431 u432 u433 u434 u435 u436 u437 u438 u439 u440 u441 u442 u443 u444 u445 u446 u447 u448 u449 u450 u451 u452 u453 u70 u71 u72 u456 u457 u458 u459 u460 u461 u462 u463 u464 u465 u466 u467 u468 u469 u470 u471 u472 u473 u474 u475 u476 u477 u478 u479 u480 u481 u482 u483 u484 u485 u486 u73 u74 u75 u76 u77 u78 u488 u489 u490 u491 u492 u493 u494 u495 u496 u497 u498 u499 u500 u501 u502 u503 u504 u505 u506 u507 u508 u509 u510 u511 u512 u513 u514 u515 u516 u517 u518 u519 u520 u521 u522 u523 u524 u525 u526 u4 u79 u80 u528 u529 u530 u531 u532 u533 u534 u535 u536 u537 u538 u539 u540 u541 u542 u543 u544 u545 u546 u547 u548 u549 u550 u551 u552 u553 u554 u555 u556 u557 wc hcut
                  conv => arg 2; whnf
                  try clear HC127
                  try clear c1
                  try clear c4
                  try clear c18
                  try clear c92
                  try clear c97
                  obtain ⟨kq, HA, HJ126, HB⟩ := hcut
                  cases kq with
                  | zero => exact absurd HA.out (by simp [laws_FnVisitsChance.j12])
                  | succ kj126 =>
                   have H := HA.out
                   clear HA
                   simp only [laws_FnVisitsChance.j12] at H
                   by_cases c135 : t345 = true
                   ·subst c135
                    rw [if_pos rfl] at H
                    try dsimp only at H
                    have H' := Aside0.mk H
                    clear H
                    go_wp2
                    go_loopg [81, 82] kj126 (fun kq v81 v82 w' => ∃ (x81_8 : Int) (x82_8 : Int), v81 = .int .i64 x81_8 ∧ v82 = .int .i64 x82_8 ∧ Aside0 (laws_FnVisitsChance.l2 kq t342 t343 t344 x81_8 x82_8 = some r) ∧ Aside0 (kq ≤ kj126) ∧ Aside0 (Below w.heap.size w w'))
                    case atStart => exact ⟨(0), (0), (by first | rfl | (simp; done) | (simp [*]; done)), (by first | rfl | (simp; done) | (simp [*]; done)), H', ⟨Nat.le_refl _⟩, ⟨hB HB.out⟩⟩
                    case round =>
                     clear H'
                     try clear c1
                     try clear c4
                     try clear c18
                     try clear c92
                     try clear c97
                     try clear c135
                     obtain ⟨x81_8, x82_8, rfl, rfl, HA, HK8, HB⟩ := hrel
                     cases gk with
                     | zero => exact absurd HA.out (by simp [laws_FnVisitsChance.l2])
                     | succ k8 =>
                      have H := HA.out
                      clear HA
                      simp only [laws_FnVisitsChance.l2] at H
                      by_cases c136 : x82_8 < t342
                      ·rw [if_pos c136] at H
                       have c136b0 : decide (x82_8 < t342) = true := decide_eq_true c136
                       clear c136
                       replace H := Option.bind_eq_some_iff.mp H
                       obtain ⟨⟨t366, t367⟩, A1370, H⟩ := H
                       try dsimp only at H
                       have A137 := Aside0.mk A1370
                       clear A1370
                       by_cases c138 : t367 = true
                       ·subst c138
                        rw [if_pos rfl] at H
                        try dsimp only at H
                        have H' := Aside0.mk H
                        clear H
                        go_wp2_with (first | ((with_reducible refine gate_callee (f := 24) rfl ?_); refine goesL_ (some 567) rfl rfl Try.func24 (by kernel_rfl) rfl #[.int .i64 t342, .int .i64 x82_8] rfl (by (try simp only [List.map_toArray, List.map_cons, List.map_nil]); first | done | rfl | (simp only [List.length_drop, List.length_take]; rfl)) ?_; (with_reducible refine (impl_CountApart.calls k8 t342 x82_8 t366 true _ A137.out).mono ?_); rintro e w139 ⟨rfl, hb⟩; refine ⟨_, rfl, ?_⟩; have n0_ := Aside0.mk (below_step (hB HB.out) hb); clear HB; have HB := n0_; clear n0_; (try clear hb); (try clear hb2); (try clear hk); (try clear hi)))
                        go_roundg k8
                        case measure => have := HJ9.out; have := HJ18.out; have := HJ65.out; have := HJ92.out; have := HJ97.out; have := HJ112.out; have := HJ126.out; have := HK8.out; omega
                        case rel => exact ⟨(wrap64 (x81_8 + (wrap64 (x82_8 * t366)))), (wrap64 (x82_8 + 1)), (by first | rfl | (simp; done) | (simp [*]; done)), (by first | rfl | (simp; done) | (simp [*]; done)), H', ⟨by have := HJ9.out; have := HJ18.out; have := HJ65.out; have := HJ92.out; have := HJ97.out; have := HJ112.out; have := HJ126.out; have := HK8.out; omega⟩, ⟨hB HB.out⟩⟩
                       ·replace c138 := Bool.eq_false_iff.mpr c138
                        subst c138
                        rw [if_neg (show ¬ (false = true) by decide)] at H
                        try dsimp only at H
                        obtain rfl := Option.some.inj H
                        go_wp2_with (first | ((with_reducible refine gate_callee (f := 24) rfl ?_); refine goesL_ (some 567) rfl rfl Try.func24 (by kernel_rfl) rfl #[.int .i64 t342, .int .i64 x82_8] rfl (by (try simp only [List.map_toArray, List.map_cons, List.map_nil]); first | done | rfl | (simp only [List.length_drop, List.length_take]; rfl)) ?_; (with_reducible refine (impl_CountApart.calls k8 t342 x82_8 t366 false _ A137.out).mono ?_); rintro e w140 ⟨rfl, hb⟩; refine ⟨_, rfl, ?_⟩; have n0_ := Aside0.mk (below_step (hB HB.out) hb); clear HB; have HB := n0_; clear n0_; (try clear hb); (try clear hb2); (try clear hk); (try clear hi)))
                        go_ret
                        exact ⟨by first | rfl | (simp [errW_none, errW_some] <;> rfl) | (simp [*, errW_none, errW_some] <;> rfl), hB HB.out⟩
                      ·rw [if_neg c136] at H
                       have c136b0 : decide (x82_8 < t342) = false := decide_eq_false c136
                       clear c136
                       replace H := Option.bind_eq_some_iff.mp H
                       obtain ⟨t368, A1410, H⟩ := H
                       try dsimp only at H
                       have A141 := Aside0.mk A1410
                       clear A1410
                       by_cases c142 : t368 = true
                       ·subst c142
                        rw [if_pos rfl] at H
                        try dsimp only at H
                        by_cases c143 : (wrap64 ((wrap64 (t343 * t342)) * t342)) = (wrap64 (t344 * x81_8))
                        ·rw [if_pos c143] at H
                         have c143b0 : ((wrap64 ((wrap64 (t343 * t342)) * t342)) == (wrap64 (t344 * x81_8))) = true := beq_iff_eq.mpr c143
                         have c143b1 : ((wrap64 ((wrap64 (t343 * t342)) * t342)) != (wrap64 (t344 * x81_8))) = false := bne_eq_false_iff_eq.mpr c143
                         clear c143
                         obtain rfl := Option.some.inj H
                         go_wp2_with (first | ((with_reducible refine gate_callee (f := 23) rfl ?_); refine goesL_ (some 579) rfl rfl Try.func23 (by kernel_rfl) rfl #[.int .i64 t343, .int .i64 t344] rfl (by (try simp only [List.map_toArray, List.map_cons, List.map_nil]); first | done | rfl | (simp only [List.length_drop, List.length_take]; rfl)) ?_; (with_reducible refine (laws_yLow.calls k8 t343 t344 true _ A141.out).mono ?_); rintro e w' ⟨rfl, ⟨nd, rfl⟩⟩; refine ⟨_, rfl, ?_⟩))
                         go_ret
                         exact ⟨by first | rfl | (simp [errW_none, errW_some] <;> rfl) | (simp [*, errW_none, errW_some] <;> rfl), hB HB.out⟩
                        ·rw [if_neg c143] at H
                         have c143b0 : ((wrap64 ((wrap64 (t343 * t342)) * t342)) == (wrap64 (t344 * x81_8))) = false := beq_eq_false_iff_ne.mpr c143
                         have c143b1 : ((wrap64 ((wrap64 (t343 * t342)) * t342)) != (wrap64 (t344 * x81_8))) = true := bne_iff_ne.mpr c143
                         obtain rfl := Option.some.inj H
                         go_wp2_with (first | ((with_reducible refine gate_callee (f := 23) rfl ?_); refine goesL_ (some 579) rfl rfl Try.func23 (by kernel_rfl) rfl #[.int .i64 t343, .int .i64 t344] rfl (by (try simp only [List.map_toArray, List.map_cons, List.map_nil]); first | done | rfl | (simp only [List.length_drop, List.length_take]; rfl)) ?_; (with_reducible refine (laws_yLow.calls k8 t343 t344 true _ A141.out).mono ?_); rintro e w' ⟨rfl, ⟨nd, rfl⟩⟩; refine ⟨_, rfl, ?_⟩))
                         go_ret
                         exact ⟨by first | rfl | (simp [errW_none, errW_some] <;> rfl) | (simp [*, errW_none, errW_some] <;> rfl), hB HB.out⟩
                       ·replace c142 := Bool.eq_false_iff.mpr c142
                        subst c142
                        rw [if_neg (show ¬ (false = true) by decide)] at H
                        try dsimp only at H
                        obtain rfl := Option.some.inj H
                        go_wp2_with (first | ((with_reducible refine gate_callee (f := 23) rfl ?_); refine goesL_ (some 579) rfl rfl Try.func23 (by kernel_rfl) rfl #[.int .i64 t343, .int .i64 t344] rfl (by (try simp only [List.map_toArray, List.map_cons, List.map_nil]); first | done | rfl | (simp only [List.length_drop, List.length_take]; rfl)) ?_; (with_reducible refine (laws_yLow.calls k8 t343 t344 false _ A141.out).mono ?_); rintro e w' ⟨rfl, ⟨nd, rfl⟩⟩; refine ⟨_, rfl, ?_⟩))
                        go_ret
                        exact ⟨by first | rfl | (simp [errW_none, errW_some] <;> rfl) | (simp [*, errW_none, errW_some] <;> rfl), hB HB.out⟩
                   ·replace c135 := Bool.eq_false_iff.mpr c135
                    subst c135
                    rw [if_neg (show ¬ (false = true) by decide)] at H
                    try dsimp only at H
                    obtain rfl := Option.some.inj H
                    go_wp2
                    go_ret
                    exact ⟨by first | rfl | (simp [errW_none, errW_some] <;> rfl) | (simp [*, errW_none, errW_some] <;> rfl), hB HB.out⟩

end Go.Proofs.Ytojbcpklmegjpaa.QFnVisitsChance
