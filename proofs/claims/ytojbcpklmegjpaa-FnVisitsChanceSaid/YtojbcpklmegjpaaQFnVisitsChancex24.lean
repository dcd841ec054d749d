-- written by a program of this session, over the form of the kit's print
import Derived.Test.YtojbcpklmegjpaaQFnVisitsChancex20
namespace Go.Proofs.Ytojbcpklmegjpaa.QFnVisitsChance
open Go.RowKit Go.Proofs.YtojbcpklmegjpaaV Go.Proofs.YtojbcpklmegjpaaW.PrintWords Go.Proofs.YtojbcpklmegjpaaW.PrintLast Go.Proofs.YtojbcpklmegjpaaW.PrintMore
attribute [local go_sem] max2_int min2_int max_two min_two max_three min_three max_four min_four   -- for this text's walks alone
set_option linter.unusedVariables false
set_option linter.unusedSimpArgs false

set_option maxHeartbeats 60000000 in
set_option maxRecDepth 100000 in
theorem laws_FnVisitsChance.seg3 (h4 : laws_FnVisitsChance.Seg4) : laws_FnVisitsChance.Seg3 := by
        unfold laws_FnVisitsChance.Seg3
        intro k A0 c0 l0 A1 c1 l1 r w t291 t292 t293 t294 t295 t296 t297 t298 t299 t300 t301 t302 t303 kj9 HJ9 kj18 HJ18 t311 t312 t313 t314 t315 t316 t317 t318 t319 t320 t321 t322 t323 t324 t325 t326 t327 t328 t329 t330 t331 t332 t333 t334 t335 t336 t337 t338 t339 t340 t341 t342 t343 t344 t345 t346 t347 t348 t349 t350 t351 t352 t353 t354 u124 u125 u126 u127 u128 u129 u130 u131 u132 u133 u134 u135 u136 u137 u138 u139 u140 u141 u142 u143 u144 u145 u146 u147 u148 u149 u150 u4 u18 u19 u20 u21 u22 u23 u24 u25 u153 u154 u155 u156 u157 u158 u159 u160 u161 u162 u163 u164 u165 u166 u167 u168 u169 u170 u171 u172 u173 u174 u175 u176 u177 u178 u179 u180 u181 u182 u183 u184 u185 u186 u187 u188 u189 u190 u191 u192 u193 u194 u195 u196 u197 u198 u199 u200 u201 u202 u203 u204 u205 u206 u207 u208 u209 u210 u211 u212 u213 u214 u215 u216 u217 u218 u219 u220 u221 u222 u223 u224 u225 u226 u227 u228 u229 u230 u231 u232 u233 u234 u235 u236 u237 u238 u239 u240 u241 u354 u355 u356 u357 u358 u359 u360 u361 u362 u363 u364 u365 u366 u367 u368 u369 u370 u371 u372 u373 u374 u375 u376 u377 u378 u379 u380 u381 u382 u383 u384 u385 u386 u387 u388 u389 u390 u391 u392 u393 u394 u395 u396 u397 u398 u399 u400 u401 u402 u403 u404 u405 u406 u407 u408 u409 u410 u411 u412 u413 u414 u415 u416 u417 u418 u419 u420 u421 u422 u423 u424 u425 u426 wc hcut
        intro K1_ a1_
        conv at a1_ => intro a w_; arg 1; arg 2; whnf
        conv => arg 2; whnf
        try clear HC66
        try clear c1
        try clear c4
        try clear c18
        obtain ⟨kq, x426_65, rfl, HA, HJ65, HB⟩ := hcut
        cases kq with
        | zero => exact absurd HA.out (by simp [laws_FnVisitsChance.j6])
        | succ kj65 =>
         have H := HA.out
         clear HA
         simp only [laws_FnVisitsChance.j6] at H
         by_cases c92 : x426_65 = true
         ·subst c92
          rw [if_pos rfl] at H
          try dsimp only at H
          obtain rfl := Option.some.inj H
          go_wp2
          go_ret
          exact ⟨by first | rfl | (simp [errW_none, errW_some] <;> rfl) | (simp [*, errW_none, errW_some] <;> rfl), hB HB.out⟩
         ·replace c92 := Bool.eq_false_iff.mpr c92
          subst c92
          rw [if_neg (show ¬ (false = true) by decide)] at H
          try dsimp only at H
          have HC93 := Aside0.mk H
          clear H
          go_upto_region 49 with (fail)
          go_cut [454] from 592 (fun v454 wc => ∃ (kq : Nat) (x454_92 : Bool), v454 = .bool x454_92 ∧ Aside0 (laws_FnVisitsChance.j7 kq t319 t320 t321 t322 t323 t324 t328 t329 t330 t331 t332 t335 t336 t337 t338 t339 t342 t343 t344 t345 x454_92 = some r) ∧ Aside0 (kq ≤ kj65) ∧ Aside0 (Below w.heap.size w wc))
          case first =>
           have H := HC93.out
           clear HC93
           by_cases c94 : t315 = true
           ·subst c94
            rw [if_pos rfl] at H
            try dsimp only at H
            replace H := Option.bind_eq_some_iff.mp H
            obtain ⟨t355, A950, H⟩ := H
            try dsimp only at H
            have A95 := Aside0.mk A950
            clear A950
            by_cases c96 : t355 = true
            ·subst c96
             rw [if_pos rfl] at H
             try dsimp only at H
             have H' := Aside0.mk H
             clear H
             go_wp2_with (first | (go_at_call 23; (with_reducible refine (laws_yLow.calls kj65 t313 t314 true _ A95.out).mono ?_); rintro e w' ⟨rfl, ⟨nd, rfl⟩⟩))
             go_meet
             case rel => exact ⟨_, (((wrap64 ((wrap64 (t313 * t311)) * t311)) != (wrap64 (t314 * (wrap64 ((wrap64 (t311 * t311)) - (wrap64 ((wrap64 (t311 - t312)) * (wrap64 (t311 - t312)))))))))), (by first | rfl | (simp; done) | (simp [*]; done)), H', ⟨by have := HJ9.out; have := HJ18.out; have := HJ65.out; first | omega | exact Nat.le_refl _⟩, ⟨hB HB.out⟩⟩
            ·replace c96 := Bool.eq_false_iff.mpr c96
             subst c96
             rw [if_neg (show ¬ (false = true) by decide)] at H
             try dsimp only at H
             have H' := Aside0.mk H
             clear H
             go_wp2_with (first | (go_at_call 23; (with_reducible refine (laws_yLow.calls kj65 t313 t314 false _ A95.out).mono ?_); rintro e w' ⟨rfl, ⟨nd, rfl⟩⟩))
             go_meet
             case rel => exact ⟨_, (true), (by first | rfl | (simp; done) | (simp [*]; done)), H', ⟨by have := HJ9.out; have := HJ18.out; have := HJ65.out; first | omega | exact Nat.le_refl _⟩, ⟨hB HB.out⟩⟩
           ·replace c94 := Bool.eq_false_iff.mpr c94
            subst c94
            rw [if_neg (show ¬ (false = true) by decide)] at H
            try dsimp only at H
            have H' := Aside0.mk H
            clear H
            go_wp2
            go_meet
            case rel => exact ⟨_, (false), (by first | rfl | (simp; done) | (simp [*]; done)), H', ⟨by have := HJ9.out; have := HJ18.out; have := HJ65.out; first | omega | exact Nat.le_refl _⟩, ⟨hB HB.out⟩⟩
          case rest =>
           rename_i K1_ a1_ K0_ a0_
           exact a0_ _ _ (h4 k A0 c0 l0 A1 c1 l1 r w t291 t292 t293 t294 t295 t296 t297 t298 t299 t300 t301 t302 t303 kj9 HJ9 kj18 HJ18 t311 t312 t313 t314 t315 t316 t317 t318 t319 t320 t321 t322 t323 t324 t325 t326 t327 t328 t329 t330 t331 t332 t333 t334 t335 t336 t337 t338 t339 t340 t341 t342 t343 t344 t345 t346 t347 t348 t349 t350 t351 t352 t353 t354 kj65 HJ65 u124 u125 u126 u127 u128 u129 u130 u131 u132 u133 u134 u135 u136 u137 u138 u139 u140 u141 u142 u143 u144 u145 u146 u147 u148 u149 u150 u4 u18 u19 u20 u21 u22 u23 u24 u25 u153 u154 u155 u156 u157 u158 u159 u160 u161 u162 u163 u164 u165 u166 u167 u168 u169 u170 u171 u172 u173 u174 u175 u176 u177 u178 u179 u180 u181 u182 u183 u184 u185 u186 u187 u188 u189 u190 u191 u192 u193 u194 u195 u196 u197 u198 u199 u200 u201 u202 u203 u204 u205 u206 u207 u208 u209 u210 u211 u212 u213 u214 u215 u216 u217 u218 u219 u220 u221 u222 u223 u224 u225 u226 u227 u228 u229 u230 u231 u232 u233 u234 u235 u236 u237 u238 u239 u240 u241 u354 u355 u356 u357 u358 u359 u360 u361 u362 u363 u364 u365 u366 u367 u368 u369 u370 u371 u372 u373 u374 u375 u376 u377 u378 u379 u380 u381 u382 u383 u384 u385 u386 u387 u388 u389 u390 u391 u392 u393 u394 u395 u396 u397 u398 u399 u400 u401 u402 u403 u404 u405 u406 u407 u408 u409 u410 u411 u412 u413 u414 u415 u416 u417 u418 u419 u420 u421 u422 u423 u424 u425 u427 u428 u429 u430 u431 u432 u433 u434 u435 u436 u437 u438 u439 u440 u441 u442 u443 u444 u445 u446 u447 u448 u449 u450 u451 u452 u453 u454 wc hcut K1_ a1_)

end Go.Proofs.Ytojbcpklmegjpaa.QFnVisitsChance
