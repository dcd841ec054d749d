-- written by a program of this session, over the form of the kit's print
import Derived.Test.YtojbcpklmegjpaaQFnVisitsChancex31
import Derived.Test.YtojbcpklmegjpaaQFnVisitsChancex32
import Derived.Test.YtojbcpklmegjpaaQFnVisitsChancex33
import Derived.Test.YtojbcpklmegjpaaQFnVisitsChancex34
import Derived.Test.YtojbcpklmegjpaaQFnVisitsChancex35
namespace Go.Proofs.Ytojbcpklmegjpaa.QFnVisitsChance
open Go.RowKit Go.Proofs.YtojbcpklmegjpaaV Go.Proofs.YtojbcpklmegjpaaW.PrintWords Go.Proofs.YtojbcpklmegjpaaW.PrintLast Go.Proofs.YtojbcpklmegjpaaW.PrintMore
attribute [local go_sem] max2_int min2_int max_two min_two max_three min_three max_four min_four   -- for this text's walks alone
set_option linter.unusedVariables false
set_option linter.unusedSimpArgs false


set_option maxHeartbeats 60000000 in
set_option maxRecDepth 100000 in
theorem laws_FnVisitsChance.seg2 (h3 : laws_FnVisitsChance.Seg3) : laws_FnVisitsChance.Seg2 := by
      unfold laws_FnVisitsChance.Seg2
      intro k A0 c0 l0 A1 c1 l1 r w HR1 HC1 t291 t292 t293 t294 t295 t296 t297 t298 t299 t300 t301 t302 t303 kj9 HJ9 u124 u125 u126 u127 u128 u129 u130 u131 u132 u133 u134 u135 u136 u137 u138 u139 u140 u141 u142 u143 u144 u145 u146 u147 u148 u149 u150 u4 u18 u19 u20 u21 u22 u23 u24 u25 u153 u154 u155 u156 u157 u158 u159 u160 u161 u162 u163 u164 u165 u166 u167 u168 u169 u170 u171 u172 u173 u174 u175 u176 u177 u178 u179 u180 u181 u182 u183 u184 u185 u186 u187 u188 u189 u190 u191 u192 u193 u194 u195 u196 u197 u198 u199 u200 u201 u202 u203 u204 u205 u206 u207 u208 u209 u210 u211 u212 u213 u214 u215 u216 u217 u218 u219 u220 u221 u222 u223 u224 u225 u226 u227 u228 u229 u230 u231 u232 u233 u234 u235 u236 u237 u238 u239 u240 u241 wc hcut
      obtain ⟨kq, HA, HJ18, HB⟩ := hcut
      cases kq with
      | zero => exact absurd HA.out (by simp [laws_FnVisitsChance.j5])
      | succ kj18 =>
       have H := HA.out
       clear HA
       simp only [laws_FnVisitsChance.j5] at H
       replace H := Option.bind_eq_some_iff.mp H
       obtain ⟨⟨t311, t312⟩, A480, H⟩ := H
       try dsimp only at H
       have A48 := Aside0.mk A480
       clear A480
       replace H := Option.bind_eq_some_iff.mp H
       obtain ⟨⟨t313, t314, t315⟩, A490, H⟩ := H
       try dsimp only at H
       have A49 := Aside0.mk A490
       clear A490
       replace H := Option.bind_eq_some_iff.mp H
       obtain ⟨⟨t316, t317, t318⟩, A500, H⟩ := H
       try dsimp only at H
       have A50 := Aside0.mk A500
       clear A500
       replace H := Option.bind_eq_some_iff.mp H
       obtain ⟨⟨t319, t320, t321⟩, A510, H⟩ := H
       try dsimp only at H
       have A51 := Aside0.mk A510
       clear A510
       replace H := Option.bind_eq_some_iff.mp H
       obtain ⟨⟨t322, t323, t324⟩, A520, H⟩ := H
       try dsimp only at H
       have A52 := Aside0.mk A520
       clear A520
       replace H := Option.bind_eq_some_iff.mp H
       obtain ⟨⟨t325, t326, t327⟩, A530, H⟩ := H
       try dsimp only at H
       have A53 := Aside0.mk A530
       clear A530
       replace H := Option.bind_eq_some_iff.mp H
       obtain ⟨⟨t328, t329, t330⟩, A540, H⟩ := H
       try dsimp only at H
       have A54 := Aside0.mk A540
       clear A540
       replace H := Option.bind_eq_some_iff.mp H
       obtain ⟨⟨t331, t332⟩, A550, H⟩ := H
       try dsimp only at H
       have A55 := Aside0.mk A550
       clear A550
       replace H := Option.bind_eq_some_iff.mp H
       obtain ⟨⟨t333, t334⟩, A560, H⟩ := H
       try dsimp only at H
       have A56 := Aside0.mk A560
       clear A560
       replace H := Option.bind_eq_some_iff.mp H
       obtain ⟨⟨t335, t336, t337⟩, A570, H⟩ := H
       try dsimp only at H
       have A57 := Aside0.mk A570
       clear A570
       replace H := Option.bind_eq_some_iff.mp H
       obtain ⟨⟨t338, t339⟩, A580, H⟩ := H
       try dsimp only at H
       have A58 := Aside0.mk A580
       clear A580
       replace H := Option.bind_eq_some_iff.mp H
       obtain ⟨⟨t340, t341⟩, A590, H⟩ := H
       try dsimp only at H
       have A59 := Aside0.mk A590
       clear A590
       replace H := Option.bind_eq_some_iff.mp H
       obtain ⟨t342, A600, H⟩ := H
       try dsimp only at H
       have A60 := Aside0.mk A600
       clear A600
       replace H := Option.bind_eq_some_iff.mp H
       obtain ⟨⟨t343, t344, t345⟩, A610, H⟩ := H
       try dsimp only at H
       have A61 := Aside0.mk A610
       clear A610
       replace H := Option.bind_eq_some_iff.mp H
       obtain ⟨⟨t346, t347, t348⟩, A620, H⟩ := H
       try dsimp only at H
       have A62 := Aside0.mk A620
       clear A620
       replace H := Option.bind_eq_some_iff.mp H
       obtain ⟨⟨t349, t350⟩, A630, H⟩ := H
       try dsimp only at H
       have A63 := Aside0.mk A630
       clear A630
       replace H := Option.bind_eq_some_iff.mp H
       obtain ⟨⟨t351, t352⟩, A640, H⟩ := H
       try dsimp only at H
       have A64 := Aside0.mk A640
       clear A640
       replace H := Option.bind_eq_some_iff.mp H
       obtain ⟨⟨t353, t354⟩, A650, H⟩ := H
       try dsimp only at H
       have A65 := Aside0.mk A650
       clear A650
       have HC66 := Aside0.mk H
       clear H
       by_cases hn0 : (t315 != t318) = false ∧ (t313 == t316) = true ∧ (t314 == t317) = true
       case neg => exact laws_FnVisitsChance.seg2w0 h3 k A0 c0 l0 A1 c1 l1 r w HR1 HC1 t291 t292 t293 t294 t295 t296 t297 t298 t299 t300 t301 t302 t303 kj9 HJ9 u124 u125 u126 u127 u128 u129 u130 u131 u132 u133 u134 u135 u136 u137 u138 u139 u140 u141 u142 u143 u144 u145 u146 u147 u148 u149 u150 u4 u18 u19 u20 u21 u22 u23 u24 u25 u153 u154 u155 u156 u157 u158 u159 u160 u161 u162 u163 u164 u165 u166 u167 u168 u169 u170 u171 u172 u173 u174 u175 u176 u177 u178 u179 u180 u181 u182 u183 u184 u185 u186 u187 u188 u189 u190 u191 u192 u193 u194 u195 u196 u197 u198 u199 u200 u201 u202 u203 u204 u205 u206 u207 u208 u209 u210 u211 u212 u213 u214 u215 u216 u217 u218 u219 u220 u221 u222 u223 u224 u225 u226 u227 u228 u229 u230 u231 u232 u233 u234 u235 u236 u237 u238 u239 u240 u241 wc HB kj18 HJ18 t311 t312 A48 t313 t314 t315 A49 t316 t317 t318 A50 t319 t320 t321 A51 t322 t323 t324 A52 t325 t326 t327 A53 t328 t329 t330 A54 t331 t332 A55 t333 t334 A56 t335 t336 t337 A57 t338 t339 A58 t340 t341 A59 t342 A60 t343 t344 t345 A61 t346 t347 t348 A62 t349 t350 A63 t351 t352 A64 t353 t354 A65 HC66  (Aside0.mk hn0)
       obtain ⟨hq0, hq1, hq2⟩ := hn0
       by_cases hn1 : (t324 != t327) = false ∧ (t322 == t325) = true ∧ (t323 == t326) = true
       case neg => exact laws_FnVisitsChance.seg2w1 h3 k A0 c0 l0 A1 c1 l1 r w HR1 HC1 t291 t292 t293 t294 t295 t296 t297 t298 t299 t300 t301 t302 t303 kj9 HJ9 u124 u125 u126 u127 u128 u129 u130 u131 u132 u133 u134 u135 u136 u137 u138 u139 u140 u141 u142 u143 u144 u145 u146 u147 u148 u149 u150 u4 u18 u19 u20 u21 u22 u23 u24 u25 u153 u154 u155 u156 u157 u158 u159 u160 u161 u162 u163 u164 u165 u166 u167 u168 u169 u170 u171 u172 u173 u174 u175 u176 u177 u178 u179 u180 u181 u182 u183 u184 u185 u186 u187 u188 u189 u190 u191 u192 u193 u194 u195 u196 u197 u198 u199 u200 u201 u202 u203 u204 u205 u206 u207 u208 u209 u210 u211 u212 u213 u214 u215 u216 u217 u218 u219 u220 u221 u222 u223 u224 u225 u226 u227 u228 u229 u230 u231 u232 u233 u234 u235 u236 u237 u238 u239 u240 u241 wc HB kj18 HJ18 t311 t312 A48 t313 t314 t315 A49 t316 t317 t318 A50 t319 t320 t321 A51 t322 t323 t324 A52 t325 t326 t327 A53 t328 t329 t330 A54 t331 t332 A55 t333 t334 A56 t335 t336 t337 A57 t338 t339 A58 t340 t341 A59 t342 A60 t343 t344 t345 A61 t346 t347 t348 A62 t349 t350 A63 t351 t352 A64 t353 t354 A65 HC66 (Aside0.mk hq0) (Aside0.mk hq1) (Aside0.mk hq2) (Aside0.mk hn1)
       obtain ⟨hq3, hq4, hq5⟩ := hn1
       by_cases hn2 : (t332 != t334) = false ∧ (t331 == t333) = true ∧ (t339 != t341) = false
       case neg => exact laws_FnVisitsChance.seg2w2 h3 k A0 c0 l0 A1 c1 l1 r w HR1 HC1 t291 t292 t293 t294 t295 t296 t297 t298 t299 t300 t301 t302 t303 kj9 HJ9 u124 u125 u126 u127 u128 u129 u130 u131 u132 u133 u134 u135 u136 u137 u138 u139 u140 u141 u142 u143 u144 u145 u146 u147 u148 u149 u150 u4 u18 u19 u20 u21 u22 u23 u24 u25 u153 u154 u155 u156 u157 u158 u159 u160 u161 u162 u163 u164 u165 u166 u167 u168 u169 u170 u171 u172 u173 u174 u175 u176 u177 u178 u179 u180 u181 u182 u183 u184 u185 u186 u187 u188 u189 u190 u191 u192 u193 u194 u195 u196 u197 u198 u199 u200 u201 u202 u203 u204 u205 u206 u207 u208 u209 u210 u211 u212 u213 u214 u215 u216 u217 u218 u219 u220 u221 u222 u223 u224 u225 u226 u227 u228 u229 u230 u231 u232 u233 u234 u235 u236 u237 u238 u239 u240 u241 wc HB kj18 HJ18 t311 t312 A48 t313 t314 t315 A49 t316 t317 t318 A50 t319 t320 t321 A51 t322 t323 t324 A52 t325 t326 t327 A53 t328 t329 t330 A54 t331 t332 A55 t333 t334 A56 t335 t336 t337 A57 t338 t339 A58 t340 t341 A59 t342 A60 t343 t344 t345 A61 t346 t347 t348 A62 t349 t350 A63 t351 t352 A64 t353 t354 A65 HC66 (Aside0.mk hq0) (Aside0.mk hq1) (Aside0.mk hq2) (Aside0.mk hq3) (Aside0.mk hq4) (Aside0.mk hq5) (Aside0.mk hn2)
       obtain ⟨hq6, hq7, hq8⟩ := hn2
       by_cases hn3 : (t338 == t340) = true ∧ (t345 != t348) = false ∧ (t343 == t346) = true
       case neg => exact laws_FnVisitsChance.seg2w3 h3 k A0 c0 l0 A1 c1 l1 r w HR1 HC1 t291 t292 t293 t294 t295 t296 t297 t298 t299 t300 t301 t302 t303 kj9 HJ9 u124 u125 u126 u127 u128 u129 u130 u131 u132 u133 u134 u135 u136 u137 u138 u139 u140 u141 u142 u143 u144 u145 u146 u147 u148 u149 u150 u4 u18 u19 u20 u21 u22 u23 u24 u25 u153 u154 u155 u156 u157 u158 u159 u160 u161 u162 u163 u164 u165 u166 u167 u168 u169 u170 u171 u172 u173 u174 u175 u176 u177 u178 u179 u180 u181 u182 u183 u184 u185 u186 u187 u188 u189 u190 u191 u192 u193 u194 u195 u196 u197 u198 u199 u200 u201 u202 u203 u204 u205 u206 u207 u208 u209 u210 u211 u212 u213 u214 u215 u216 u217 u218 u219 u220 u221 u222 u223 u224 u225 u226 u227 u228 u229 u230 u231 u232 u233 u234 u235 u236 u237 u238 u239 u240 u241 wc HB kj18 HJ18 t311 t312 A48 t313 t314 t315 A49 t316 t317 t318 A50 t319 t320 t321 A51 t322 t323 t324 A52 t325 t326 t327 A53 t328 t329 t330 A54 t331 t332 A55 t333 t334 A56 t335 t336 t337 A57 t338 t339 A58 t340 t341 A59 t342 A60 t343 t344 t345 A61 t346 t347 t348 A62 t349 t350 A63 t351 t352 A64 t353 t354 A65 HC66 (Aside0.mk hq0) (Aside0.mk hq1) (Aside0.mk hq2) (Aside0.mk hq3) (Aside0.mk hq4) (Aside0.mk hq5) (Aside0.mk hq6) (Aside0.mk hq7) (Aside0.mk hq8) (Aside0.mk hn3)
       obtain ⟨hq9, hq10, hq11⟩ := hn3
       exact laws_FnVisitsChance.seg2w4 h3 k A0 c0 l0 A1 c1 l1 r w HR1 HC1 t291 t292 t293 t294 t295 t296 t297 t298 t299 t300 t301 t302 t303 kj9 HJ9 u124 u125 u126 u127 u128 u129 u130 u131 u132 u133 u134 u135 u136 u137 u138 u139 u140 u141 u142 u143 u144 u145 u146 u147 u148 u149 u150 u4 u18 u19 u20 u21 u22 u23 u24 u25 u153 u154 u155 u156 u157 u158 u159 u160 u161 u162 u163 u164 u165 u166 u167 u168 u169 u170 u171 u172 u173 u174 u175 u176 u177 u178 u179 u180 u181 u182 u183 u184 u185 u186 u187 u188 u189 u190 u191 u192 u193 u194 u195 u196 u197 u198 u199 u200 u201 u202 u203 u204 u205 u206 u207 u208 u209 u210 u211 u212 u213 u214 u215 u216 u217 u218 u219 u220 u221 u222 u223 u224 u225 u226 u227 u228 u229 u230 u231 u232 u233 u234 u235 u236 u237 u238 u239 u240 u241 wc HB kj18 HJ18 t311 t312 A48 t313 t314 t315 A49 t316 t317 t318 A50 t319 t320 t321 A51 t322 t323 t324 A52 t325 t326 t327 A53 t328 t329 t330 A54 t331 t332 A55 t333 t334 A56 t335 t336 t337 A57 t338 t339 A58 t340 t341 A59 t342 A60 t343 t344 t345 A61 t346 t347 t348 A62 t349 t350 A63 t351 t352 A64 t353 t354 A65 HC66 (Aside0.mk hq0) (Aside0.mk hq1) (Aside0.mk hq2) (Aside0.mk hq3) (Aside0.mk hq4) (Aside0.mk hq5) (Aside0.mk hq6) (Aside0.mk hq7) (Aside0.mk hq8) (Aside0.mk hq9) (Aside0.mk hq10) (Aside0.mk hq11)

end Go.Proofs.Ytojbcpklmegjpaa.QFnVisitsChance
