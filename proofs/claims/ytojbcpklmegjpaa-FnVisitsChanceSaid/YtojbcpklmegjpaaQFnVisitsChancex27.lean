-- written by a program of this session, over the form of the kit's print
import Derived.Test.YtojbcpklmegjpaaQFnVisitsChancex20
namespace Go.Proofs.Ytojbcpklmegjpaa.QFnVisitsChance
open Go.RowKit Go.Proofs.YtojbcpklmegjpaaV Go.Proofs.YtojbcpklmegjpaaW.PrintWords Go.Proofs.YtojbcpklmegjpaaW.PrintLast Go.Proofs.YtojbcpklmegjpaaW.PrintMore
attribute [local go_sem] max2_int min2_int max_two min_two max_three min_three max_four min_four   -- for this text's walks alone
set_option linter.unusedVariables false
set_option linter.unusedSimpArgs false

set_option maxHeartbeats 60000000 in
set_option maxRecDepth 100000 in
theorem laws_FnVisitsChance.seg6 (h7 : laws_FnVisitsChance.Seg7) : laws_FnVisitsChance.Seg6 := by
                unfold laws_FnVisitsChance.Seg6
                intro k A0 c0 l0 A1 c1 l1 r w t291 t292 t293 t294 t295 t296 t297 t298 t299 t300 t301 t302 t303 kj9 HJ9 kj18 HJ18 t311 t312 t313 t314 t315 t316 t317 t318 t319 t320 t321 t322 t323 t324 t325 t326 t327 t328 t329 t330 t331 t332 t333 t334 t335 t336 t337 t338 t339 t340 t341 t342 t343 t344 t345 t346 t347 t348 t349 t350 t351 t352 t353 t354 kj65 HJ65 kj92 HJ92 kj97 HJ97 u124 u125 u126 u127 u128 u129 u130 u131 u132 u133 u134 u135 u136 u137 u138 u139 u140 u141 u142 u143 u144 u145 u146 u147 u148 u149 u150 u18 u19 u20 u21 u22 u23 u24 u25 u153 u154 u155 u156 u157 u158 u159 u160 u161 u162 u163 u164 u165 u166 u167 u168 u169 u170 u171 u172 u173 u174 u175 u176 u177 u178 u179 u180 u181 u182 u183 u184 u185 u186 u187 u188 u189 u190 u191 u192 u193 u194 u195 u196 u197 u198 u199 u200 u201 u202 u203 u204 u205 u206 u207 u208 u209 u210 u211 u212 u213 u214 u215 u216 u217 u218 u219 u220 u221 u222 u223 u224 u225 u226 u227 u228 u229 u230 u231 u232 u233 u234 u235 u236 u237 u238 u239 u240 u241 u354 u355 u356 u357 u358 u359 u360 u361 u362 u363 u364 u365 u366 u367 u368 u369 u370 u371 u372 u373 u374 u375 u376 u377 u378 u379 u380 u381 u382 u383 u384 u385 u386 u387 u388 u389 u390 u391 u392 u393 u394 u395 u396 u397 u398 u399 u400 u401 u402 u403 u404 u405 u406 u407 u408 u409 u410 u411 u412 u413 u414 u415 u416 u417 u418 u419 u420 u421 u422 u423 u424 u425 u427 u428 u429 u430 u431 u432 u433 u434 u435 u436 u437 u438 u439 u440 u441 u442 u443 u444 u445 u446 u447 u448 u449 u450 u451 u452 u453 u70 u71 u72 u456 u457 u458 u459 u460 u461 u462 u463 u464 u465 u466 u467 u468 u469 u470 u471 u472 u473 u474 u475 u476 u477 u478 u479 u480 u481 u482 u483 u484 u485 u486 u4 u73 u74 u75 u76 u77 u78 u488 u489 u490 u491 u492 u493 u494 u495 u496 u497 u498 u499 u500 u501 u502 u503 u504 u505 u506 u507 u508 u509 u510 u511 u512 u513 u514 u515 u516 u517 u518 u519 u520 u521 u522 u523 u524 u525 u526 wc hcut
                conv => arg 2; whnf
                try clear HC113
                try clear c1
                try clear c4
                try clear c18
                try clear c92
                try clear c97
                obtain ⟨kq, HA, HJ112, HB⟩ := hcut
                cases kq with
                | zero => exact absurd HA.out (by simp [laws_FnVisitsChance.j10])
                | succ kj112 =>
                 have H := HA.out
                 clear HA
                 simp only [laws_FnVisitsChance.j10] at H
                 have HC127 := Aside0.mk H
                 clear H
                 go_upto_if 527 with (fail)
                 go_cut [] from 592 (fun wc => ∃ (kq : Nat), Aside0 (laws_FnVisitsChance.j12 kq t342 t343 t344 t345 = some r) ∧ Aside0 (kq ≤ kj112) ∧ Aside0 (Below w.heap.size w wc))
                 case first =>
                  have H := HC127.out
                  clear HC127
                  by_cases c128 : t339 = true
                  ·subst c128
                   rw [if_pos rfl] at H
                   try dsimp only at H
                   have H' := Aside0.mk H
                   clear H
                   go_wp2
                   go_loopg [79, 80] kj112 (fun kq v79 v80 w' => ∃ (x79_7 : Int) (x80_7 : Int), v79 = .int .i64 x79_7 ∧ v80 = .int .i64 x80_7 ∧ Aside0 (laws_FnVisitsChance.l1 kq t335 t336 t337 t338 t342 t343 t344 t345 x79_7 x80_7 = some r) ∧ Aside0 (kq ≤ kj112) ∧ Aside0 (Below w.heap.size w w'))
                   case atStart => exact ⟨(1), (0), (by first | rfl | (simp; done) | (simp [*]; done)), (by first | rfl | (simp; done) | (simp [*]; done)), H', ⟨Nat.le_refl _⟩, ⟨hB HB.out⟩⟩
                   case round =>
                    clear H'
                    try clear c1
                    try clear c4
                    try clear c18
                    try clear c92
                    try clear c97
                    try clear c128
                    obtain ⟨x79_7, x80_7, rfl, rfl, HA, HK7, HB⟩ := hrel
                    cases gk with
                    | zero => exact absurd HA.out (by simp [laws_FnVisitsChance.l1])
                    | succ k7 =>
                     have H := HA.out
                     clear HA
                     simp only [laws_FnVisitsChance.l1] at H
                     by_cases c129 : x80_7 < t336
                     ·rw [if_pos c129] at H
                      have c129b0 : decide (x80_7 < t336) = true := decide_eq_true c129
                      clear c129
                      (first | rw [c129b0] | (simp only [i64_w, i32_w]; rw [c129b0]) | skip)
                      have H' := Aside0.mk H
                      clear H
                      go_wp2
                      go_roundg k7
                      case measure => have := HJ9.out; have := HJ18.out; have := HJ65.out; have := HJ92.out; have := HJ97.out; have := HJ112.out; have := HK7.out; omega
                      case rel => exact ⟨(wrap64 (x79_7 * t335)), (wrap64 (x80_7 + 1)), (by first | rfl | (simp; done) | (simp [*]; done)), (by first | rfl | (simp; done) | (simp [*]; done)), H', ⟨by have := HJ9.out; have := HJ18.out; have := HJ65.out; have := HJ92.out; have := HJ97.out; have := HJ112.out; have := HK7.out; omega⟩, ⟨hB HB.out⟩⟩
                     ·rw [if_neg c129] at H
                      have c129b0 : decide (x80_7 < t336) = false := decide_eq_false c129
                      clear c129
                      (first | rw [c129b0] | (simp only [i64_w, i32_w]; rw [c129b0]) | skip)
                      by_cases c130 : t338 < t335
                      ·rw [if_pos c130] at H
                       have c130b0 : decide (t338 < t335) = true := decide_eq_true c130
                       clear c130
                       obtain rfl := Option.some.inj H
                       go_wp2
                       go_ret
                       exact ⟨by first | rfl | (simp [errW_none, errW_some] <;> rfl) | (simp [*, errW_none, errW_some] <;> rfl), hB HB.out⟩
                      ·rw [if_neg c130] at H
                       have c130b0 : decide (t338 < t335) = false := decide_eq_false c130
                       clear c130
                       by_cases c131 : t338 > x79_7
                       ·rw [if_pos c131] at H
                        have c131b0 : decide (x79_7 < t338) = true := decide_eq_true c131
                        clear c131
                        obtain rfl := Option.some.inj H
                        go_wp2
                        go_ret
                        exact ⟨by first | rfl | (simp [errW_none, errW_some] <;> rfl) | (simp [*, errW_none, errW_some] <;> rfl), hB HB.out⟩
                       ·rw [if_neg c131] at H
                        have c131b0 : decide (x79_7 < t338) = false := decide_eq_false c131
                        clear c131
                        by_cases c132 : t337 ≥ (wrap64 (t335 - 1))
                        ·rw [if_pos c132] at H
                         have c132b0 : decide ((wrap64 (t335 - 1)) ≤ t337) = true := decide_eq_true c132
                         clear c132
                         by_cases c133 : (true != (t338 == x79_7)) = true
                         ·rw [if_pos c133] at H
                          have c133b0 : (true != (t338 == x79_7)) = true := c133
                          (try (have c133b1 : decide (true = (t338 == x79_7)) = false := by simpa using c133))
                          (try (have c133b2 : (true == (t338 == x79_7)) = false := by simpa using c133))
                          (try (have c133b3 : ¬ (true = (t338 == x79_7)) := by simpa using c133))
                          clear c133
                          obtain rfl := Option.some.inj H
                          go_wp2
                          go_ret
                          exact ⟨by first | rfl | (simp [errW_none, errW_some] <;> rfl) | (simp [*, errW_none, errW_some] <;> rfl), hB HB.out⟩
                         ·rw [if_neg c133] at H
                          have c133b0 : (true != (t338 == x79_7)) = false := by simpa using c133
                          (try (have c133b1 : decide (true = (t338 == x79_7)) = true := by simpa using c133))
                          (try (have c133b2 : (true == (t338 == x79_7)) = true := by simpa using c133))
                          clear c133
                          have H' := Aside0.mk H
                          clear H
                          go_wp2
                          go_meet
                          case rel => exact ⟨_, H', ⟨by have := HJ9.out; have := HJ18.out; have := HJ65.out; have := HJ92.out; have := HJ97.out; have := HJ112.out; have := HK7.out; first | omega | exact Nat.le_refl _⟩, ⟨hB HB.out⟩⟩
                        ·rw [if_neg c132] at H
                         have c132b0 : decide ((wrap64 (t335 - 1)) ≤ t337) = false := decide_eq_false c132
                         clear c132
                         by_cases c134 : ((t336 == 1) != (t338 == x79_7)) = true
                         ·rw [if_pos c134] at H
                          have c134b0 : ((t336 == 1) != (t338 == x79_7)) = true := c134
                          (try (have c134b1 : decide ((t336 == 1) = (t338 == x79_7)) = false := by simpa using c134))
                          (try (have c134b2 : ((t336 == 1) == (t338 == x79_7)) = false := by simpa using c134))
                          (try (have c134b3 : ¬ ((t336 == 1) = (t338 == x79_7)) := by simpa using c134))
                          clear c134
                          obtain rfl := Option.some.inj H
                          go_wp2
                          go_ret
                          exact ⟨by first | rfl | (simp [errW_none, errW_some] <;> rfl) | (simp [*, errW_none, errW_some] <;> rfl), hB HB.out⟩
                         ·rw [if_neg c134] at H
                          have c134b0 : ((t336 == 1) != (t338 == x79_7)) = false := by simpa using c134
                          (try (have c134b1 : decide ((t336 == 1) = (t338 == x79_7)) = true := by simpa using c134))
                          (try (have c134b2 : ((t336 == 1) == (t338 == x79_7)) = true := by simpa using c134))
                          clear c134
                          have H' := Aside0.mk H
                          clear H
                          go_wp2
                          go_meet
                          case rel => exact ⟨_, H', ⟨by have := HJ9.out; have := HJ18.out; have := HJ65.out; have := HJ92.out; have := HJ97.out; have := HJ112.out; have := HK7.out; first | omega | exact Nat.le_refl _⟩, ⟨hB HB.out⟩⟩
                  ·replace c128 := Bool.eq_false_iff.mpr c128
                   subst c128
                   rw [if_neg (show ¬ (false = true) by decide)] at H
                   try dsimp only at H
                   have H' := Aside0.mk H
                   clear H
                   go_wp2
                   go_meet
                   case rel => exact ⟨_, H', ⟨by have := HJ9.out; have := HJ18.out; have := HJ65.out; have := HJ92.out; have := HJ97.out; have := HJ112.out; first | omega | exact Nat.le_refl _⟩, ⟨hB HB.out⟩⟩
                 case rest =>
                  rename_i K0_ a0_
                  exact a0_ _ _ (h7 k A0 c0 l0 A1 c1 l1 r w t291 t292 t293 t294 t295 t296 t297 t298 t299 t300 t301 t302 t303 kj9 HJ9 kj18 HJ18 t311 t312 t313 t314 t315 t316 t317 t318 t319 t320 t321 t322 t323 t324 t325 t326 t327 t328 t329 t330 t331 t332 t333 t334 t335 t336 t337 t338 t339 t340 t341 t342 t343 t344 t345 t346 t347 t348 t349 t350 t351 t352 t353 t354 kj65 HJ65 kj92 HJ92 kj97 HJ97 kj112 HJ112 u124 u125 u126 u127 u128 u129 u130 u131 u132 u133 u134 u135 u136 u137 u138 u139 u140 u141 u142 u143 u144 u145 u146 u147 u148 u149 u150 u18 u19 u20 u21 u22 u23 u24 u25 u153 u154 u155 u156 u157 u158 u159 u160 u161 u162 u163 u164 u165 u166 u167 u168 u169 u170 u171 u172 u173 u174 u175 u176 u177 u178 u179 u180 u181 u182 u183 u184 u185 u186 u187 u188 u189 u190 u191 u192 u193 u194 u195 u196 u197 u198 u199 u200 u201 u202 u203 u204 u205 u206 u207 u208 u209 u210 u211 u212 u213 u214 u215 u216 u217 u218 u219 u220 u221 u222 u223 u224 u225 u226 u227 u228 u229 u230 u231 u232 u233 u234 u235 u236 u237 u238 u239 u240 u241 u354 u355 u356 u357 u358 u359 u360 u361 u362 u363 u364 u365 u366 u367 u368 u369 u370 u371 u372 u373 u374 u375 u376 u377 u378 u379 u380 u381 u382 u383 u384 u385 u386 u387 u388 u389 u390 u391 u392 u393 u394 u395 u396 u397 u398 u399 u400 u401 u402 u403 u404 u405 u406 u407 u408 u409 u410 u411 u412 u413 u414 u415 u416 u417 u418 u419 u420 u421 u422 u423 u424 u425 u427 u428 u429 u430 u431 u432 u433 u434 u435 u436 u437 u438 u439 u440 u441 u442 u443 u444 u445 u446 u447 u448 u449 u450 u451 u452 u453 u70 u71 u72 u456 u457 u458 u459 u460 u461 u462 u463 u464 u465 u466 u467 u468 u469 u470 u471 u472 u473 u474 u475 u476 u477 u478 u479 u480 u481 u482 u483 u484 u485 u486 u73 u74 u75 u76 u77 u78 u488 u489 u490 u491 u492 u493 u494 u495 u496 u497 u498 u499 u500 u501 u502 u503 u504 u505 u506 u507 u508 u509 u510 u511 u512 u513 u514 u515 u516 u517 u518 u519 u520 u521 u522 u523 u524 u525 u526 u4 u79 u80 u528 u529 u530 u531 u532 u533 u534 u535 u536 u537 u538 u539 u540 u541 u542 u543 u544 u545 u546 u547 u548 u549 u550 u551 u552 u553 u554 u555 u556 u557 wc hcut)

end Go.Proofs.Ytojbcpklmegjpaa.QFnVisitsChance
