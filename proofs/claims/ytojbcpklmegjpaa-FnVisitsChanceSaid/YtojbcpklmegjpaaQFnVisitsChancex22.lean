-- written by a program of this session, over the form of the kit's print
import Derived.Test.YtojbcpklmegjpaaQFnVisitsChancex20
namespace Go.Proofs.Ytojbcpklmegjpaa.QFnVisitsChance
open Go.RowKit Go.Proofs.YtojbcpklmegjpaaV Go.Proofs.YtojbcpklmegjpaaW.PrintWords Go.Proofs.YtojbcpklmegjpaaW.PrintLast Go.Proofs.YtojbcpklmegjpaaW.PrintMore
attribute [local go_sem] max2_int min2_int max_two min_two max_three min_three max_four min_four   -- for this text's walks alone
set_option linter.unusedVariables false
set_option linter.unusedSimpArgs false

set_option maxHeartbeats 60000000 in
set_option maxRecDepth 100000 in
theorem laws_FnVisitsChance.seg1 (h2 : laws_FnVisitsChance.Seg2) : laws_FnVisitsChance.Seg1 := by
   unfold laws_FnVisitsChance.Seg1
   intro k A0 c0 l0 A1 c1 l1 r w HR1 HC1 t291 t292 t293 t294 t295 t296 t297 t298 t299 t300 t301 t302 t303 u124 u125 u126 u127 u128 u129 u130 u131 u132 u133 u134 u135 u136 u137 u138 u139 u140 u141 u142 u143 u144 u145 u146 u147 u148 u149 u150 u151 wc hcut
   intro K1_ a1_
   conv at a1_ => intro a w_; arg 1; arg 2; whnf
   conv => arg 2; whnf
   try clear HC10
   try clear c1
   try clear c4
   obtain ⟨kq, x151_9, rfl, HA, HJ9, HB⟩ := hcut
   cases kq with
   | zero => exact absurd HA.out (by simp [laws_FnVisitsChance.j0])
   | succ kj9 =>
    have H := HA.out
    clear HA
    simp only [laws_FnVisitsChance.j0] at H
    by_cases c18 : x151_9 = true
    ·subst c18
     rw [if_pos rfl] at H
     try dsimp only at H
     obtain rfl := Option.some.inj H
     go_wp2
     go_ret
     exact ⟨by first | rfl | (simp [errW_none, errW_some] <;> rfl) | (simp [*, errW_none, errW_some] <;> rfl), hB HB.out⟩
    ·replace c18 := Bool.eq_false_iff.mpr c18
     subst c18
     rw [if_neg (show ¬ (false = true) by decide)] at H
     try dsimp only at H
     have HC19 := Aside0.mk H
     clear H
     go_upto_if 152 with (fail)
     go_cut [] from 592 (fun wc => ∃ (kq : Nat), Aside0 (laws_FnVisitsChance.j5 kq l1 = some r) ∧ Aside0 (kq ≤ kj9) ∧ Aside0 (Below w.heap.size w wc))
     case first =>
      have H := HC19.out
      clear HC19
      by_cases c20 : t295 = true
      ·subst c20
       rw [if_pos rfl] at H
       try dsimp only at H
       replace H := Option.bind_eq_some_iff.mp H
       obtain ⟨⟨t304, t305⟩, A210, H⟩ := H
       try dsimp only at H
       have A21 := Aside0.mk A210
       clear A210
       have HC22 := Aside0.mk H
       clear H
       go_upto_region 12 with (first | ((with_reducible refine gate_callee (f := 19) rfl ?_); refine goesL_ (some 157) rfl rfl Try.func19 (by kernel_rfl) rfl #[.int .i64 t291, .int .i64 t293, .int .i64 t292] rfl (by (try simp only [List.map_toArray, List.map_cons, List.map_nil]); first | done | rfl | (simp only [List.length_drop, List.length_take]; rfl)) ?_; (with_reducible refine (impl_CountTogether.calls kj9 t291 t293 t292 t304 t305 _ A21.out).mono ?_); rintro e w' ⟨rfl, ⟨nd, rfl⟩⟩; refine ⟨_, rfl, ?_⟩))
       (try simp only [Act.put, List.setIfInBounds_toArray, List.set_cons_zero, List.set_cons_succ])
       go_cut [195] from 592 (fun v195 wc => ∃ (kq : Nat) (x195_21 : Bool), v195 = .bool x195_21 ∧ Aside0 (laws_FnVisitsChance.j1 kq l1 t291 t292 t293 t294 x195_21 = some r) ∧ Aside0 (kq ≤ kj9) ∧ Aside0 (Below w.heap.size w wc))
       case first =>
        have H := HC22.out
        clear HC22
        replace H := Option.bind_eq_some_iff.mp H
        obtain ⟨t306, A230, H⟩ := H
        try dsimp only at H
        have A23 := Aside0.mk A230
        clear A230
        by_cases c24 : t306 = true
        ·subst c24
         rw [if_pos rfl] at H
         try dsimp only at H
         by_cases c25 : (wrap64 ((wrap64 (t298 * t291)) * t291)) = (wrap64 (t299 * t294))
         ·rw [if_pos c25] at H
          have c25b0 : ((wrap64 ((wrap64 (t298 * t291)) * t291)) == (wrap64 (t299 * t294))) = true := beq_iff_eq.mpr c25
          have c25b1 : ((wrap64 ((wrap64 (t298 * t291)) * t291)) != (wrap64 (t299 * t294))) = false := bne_eq_false_iff_eq.mpr c25
          clear c25
          (first | rw [c25b0] | (simp only [i64_w, i32_w]; rw [c25b0]) | skip)
          by_cases c26 : t305 = true
          ·subst c26
           rw [if_pos rfl] at H
           try dsimp only at H
           by_cases c27 : t304 = t294
           ·rw [if_pos c27] at H
            have c27b0 : (t304 == t294) = true := beq_iff_eq.mpr c27
            have c27b1 : (t304 != t294) = false := bne_eq_false_iff_eq.mpr c27
            clear c27
            by_cases c28 : t294 < t291
            ·rw [if_pos c28] at H
             have c28b0 : decide (t294 < t291) = true := decide_eq_true c28
             clear c28
             have H' := Aside0.mk H
             clear H
             go_wp2_with (first | ((with_reducible refine gate_callee (f := 23) rfl ?_); refine goesL_ (some 162) rfl rfl Try.func23 (by kernel_rfl) rfl #[.int .i64 t298, .int .i64 t299] rfl (by (try simp only [List.map_toArray, List.map_cons, List.map_nil]); first | done | rfl | (simp only [List.length_drop, List.length_take]; rfl)) ?_; (with_reducible refine (laws_yLow.calls kj9 t298 t299 true _ A23.out).mono ?_); rintro e w' ⟨rfl, ⟨nd, rfl⟩⟩; refine ⟨_, rfl, ?_⟩))
             go_meet
             case rel => exact ⟨_, (true), (by first | rfl | (simp; done) | (simp [*]; done)), H', ⟨by have := HJ9.out; first | omega | exact Nat.le_refl _⟩, ⟨hB HB.out⟩⟩
            ·rw [if_neg c28] at H
             have c28b0 : decide (t294 < t291) = false := decide_eq_false c28
             clear c28
             have H' := Aside0.mk H
             clear H
             go_wp2_with (first | ((with_reducible refine gate_callee (f := 23) rfl ?_); refine goesL_ (some 162) rfl rfl Try.func23 (by kernel_rfl) rfl #[.int .i64 t298, .int .i64 t299] rfl (by (try simp only [List.map_toArray, List.map_cons, List.map_nil]); first | done | rfl | (simp only [List.length_drop, List.length_take]; rfl)) ?_; (with_reducible refine (laws_yLow.calls kj9 t298 t299 true _ A23.out).mono ?_); rintro e w' ⟨rfl, ⟨nd, rfl⟩⟩; refine ⟨_, rfl, ?_⟩))
             go_meet
             case rel => exact ⟨_, (decide (t294 > (wrap64 (t291 * t291)))), (by first | rfl | (simp; done) | (simp [*]; done)), H', ⟨by have := HJ9.out; first | omega | exact Nat.le_refl _⟩, ⟨hB HB.out⟩⟩
           ·rw [if_neg c27] at H
            have c27b0 : (t304 == t294) = false := beq_eq_false_iff_ne.mpr c27
            have c27b1 : (t304 != t294) = true := bne_iff_ne.mpr c27
            have H' := Aside0.mk H
            clear H
            go_wp2_with (first | ((with_reducible refine gate_callee (f := 23) rfl ?_); refine goesL_ (some 162) rfl rfl Try.func23 (by kernel_rfl) rfl #[.int .i64 t298, .int .i64 t299] rfl (by (try simp only [List.map_toArray, List.map_cons, List.map_nil]); first | done | rfl | (simp only [List.length_drop, List.length_take]; rfl)) ?_; (with_reducible refine (laws_yLow.calls kj9 t298 t299 true _ A23.out).mono ?_); rintro e w' ⟨rfl, ⟨nd, rfl⟩⟩; refine ⟨_, rfl, ?_⟩))
            go_meet
            case rel => exact ⟨_, (true), (by first | rfl | (simp; done) | (simp [*]; done)), H', ⟨by have := HJ9.out; first | omega | exact Nat.le_refl _⟩, ⟨hB HB.out⟩⟩
          ·replace c26 := Bool.eq_false_iff.mpr c26
           subst c26
           rw [if_neg (show ¬ (false = true) by decide)] at H
           try dsimp only at H
           have H' := Aside0.mk H
           clear H
           go_wp2_with (first | ((with_reducible refine gate_callee (f := 23) rfl ?_); refine goesL_ (some 162) rfl rfl Try.func23 (by kernel_rfl) rfl #[.int .i64 t298, .int .i64 t299] rfl (by (try simp only [List.map_toArray, List.map_cons, List.map_nil]); first | done | rfl | (simp only [List.length_drop, List.length_take]; rfl)) ?_; (with_reducible refine (laws_yLow.calls kj9 t298 t299 true _ A23.out).mono ?_); rintro e w' ⟨rfl, ⟨nd, rfl⟩⟩; refine ⟨_, rfl, ?_⟩))
           go_meet
           case rel => exact ⟨_, (true), (by first | rfl | (simp; done) | (simp [*]; done)), H', ⟨by have := HJ9.out; first | omega | exact Nat.le_refl _⟩, ⟨hB HB.out⟩⟩
         ·rw [if_neg c25] at H
          have c25b0 : ((wrap64 ((wrap64 (t298 * t291)) * t291)) == (wrap64 (t299 * t294))) = false := beq_eq_false_iff_ne.mpr c25
          have c25b1 : ((wrap64 ((wrap64 (t298 * t291)) * t291)) != (wrap64 (t299 * t294))) = true := bne_iff_ne.mpr c25
          (first | rw [c25b0] | (simp only [i64_w, i32_w]; rw [c25b0]) | skip)
          have H' := Aside0.mk H
          clear H
          go_wp2_with (first | ((with_reducible refine gate_callee (f := 23) rfl ?_); refine goesL_ (some 162) rfl rfl Try.func23 (by kernel_rfl) rfl #[.int .i64 t298, .int .i64 t299] rfl (by (try simp only [List.map_toArray, List.map_cons, List.map_nil]); first | done | rfl | (simp only [List.length_drop, List.length_take]; rfl)) ?_; (with_reducible refine (laws_yLow.calls kj9 t298 t299 true _ A23.out).mono ?_); rintro e w' ⟨rfl, ⟨nd, rfl⟩⟩; refine ⟨_, rfl, ?_⟩))
          go_meet
          case rel => exact ⟨_, (true), (by first | rfl | (simp; done) | (simp [*]; done)), H', ⟨by have := HJ9.out; first | omega | exact Nat.le_refl _⟩, ⟨hB HB.out⟩⟩
        ·replace c24 := Bool.eq_false_iff.mpr c24
         subst c24
         rw [if_neg (show ¬ (false = true) by decide)] at H
         try dsimp only at H
         have H' := Aside0.mk H
         clear H
         go_wp2_with (first | ((with_reducible refine gate_callee (f := 23) rfl ?_); refine goesL_ (some 162) rfl rfl Try.func23 (by kernel_rfl) rfl #[.int .i64 t298, .int .i64 t299] rfl (by (try simp only [List.map_toArray, List.map_cons, List.map_nil]); first | done | rfl | (simp only [List.length_drop, List.length_take]; rfl)) ?_; (with_reducible refine (laws_yLow.calls kj9 t298 t299 false _ A23.out).mono ?_); rintro e w' ⟨rfl, ⟨nd, rfl⟩⟩; refine ⟨_, rfl, ?_⟩))
         go_meet
         case rel => exact ⟨_, (true), (by first | rfl | (simp; done) | (simp [*]; done)), H', ⟨by have := HJ9.out; first | omega | exact Nat.le_refl _⟩, ⟨hB HB.out⟩⟩
       case rest =>
        clear HC22
        try clear c1
        try clear c4
        try clear c18
        try clear c20
        obtain ⟨kq, x195_21, rfl, HA, HJ21, HB⟩ := hcut
        cases kq with
        | zero => exact absurd HA.out (by simp [laws_FnVisitsChance.j1])
        | succ kj21 =>
         have H := HA.out
         clear HA
         simp only [laws_FnVisitsChance.j1] at H
         by_cases c29 : x195_21 = true
         ·subst c29
          rw [if_pos rfl] at H
          try dsimp only at H
          obtain rfl := Option.some.inj H
          go_wp2
          go_ret
          exact ⟨by first | rfl | (simp [errW_none, errW_some] <;> rfl) | (simp [*, errW_none, errW_some] <;> rfl), hB HB.out⟩
         ·replace c29 := Bool.eq_false_iff.mpr c29
          subst c29
          rw [if_neg (show ¬ (false = true) by decide)] at H
          try dsimp only at H
          by_cases c30 : t292 = t293
          ·rw [if_pos c30] at H
           have c30b0 : (t292 == t293) = true := beq_iff_eq.mpr c30
           have c30b1 : (t292 != t293) = false := bne_eq_false_iff_eq.mpr c30
           clear c30
           have H' := Aside0.mk H
           clear H
           go_wp2
           go_loopg [20, 21] kj21 (fun kq v20 v21 w' => ∃ (x20_3 : Int) (x21_3 : Int), v20 = .int .i64 x20_3 ∧ v21 = .int .i64 x21_3 ∧ Aside0 (laws_FnVisitsChance.l0 kq l1 t291 t292 t294 x20_3 x21_3 = some r) ∧ Aside0 (kq ≤ kj21) ∧ Aside0 (Below w.heap.size w w'))
           case atStart => exact ⟨(0), (0), (by first | rfl | (simp; done) | (simp [*]; done)), (by first | rfl | (simp; done) | (simp [*]; done)), H', ⟨Nat.le_refl _⟩, ⟨hB HB.out⟩⟩
           case round =>
            clear H'
            try clear c1
            try clear c4
            try clear c18
            try clear c20
            try clear c29
            try clear c30
            try clear c30b0
            try clear c30b1
            obtain ⟨x20_3, x21_3, rfl, rfl, HA, HK3, HB⟩ := hrel
            cases gk with
            | zero => exact absurd HA.out (by simp [laws_FnVisitsChance.l0])
            | succ k3 =>
             have H := HA.out
             clear HA
             simp only [laws_FnVisitsChance.l0] at H
             have HC31 := Aside0.mk H
             clear H
             go_upto_region 17 with (fail)
             go_cut [206] (fun v206 wc => ∃ (kq : Nat) (x206_30 : Bool), v206 = .bool x206_30 ∧ Aside0 (laws_FnVisitsChance.j3 kq l1 t291 t292 t294 x20_3 x21_3 x206_30 = some r) ∧ Aside0 (kq ≤ k3) ∧ Aside0 (Below w.heap.size w wc))
             case first =>
              have H := HC31.out
              clear HC31
              by_cases c32 : x21_3 ≤ t292
              ·rw [if_pos c32] at H
               have c32b0 : decide (x21_3 ≤ t292) = true := decide_eq_true c32
               clear c32
               (first | rw [c32b0] | (simp only [i64_w, i32_w]; rw [c32b0]) | skip)
               have H' := Aside0.mk H
               clear H
               go_wp2
               go_meet
               case rel => exact ⟨_, (decide (x21_3 < t291)), (by first | rfl | (simp; done) | (simp [*]; done)), H', ⟨by have := HJ9.out; have := HJ21.out; have := HK3.out; first | omega | exact Nat.le_refl _⟩, ⟨hB HB.out⟩⟩
              ·rw [if_neg c32] at H
               have c32b0 : decide (x21_3 ≤ t292) = false := decide_eq_false c32
               clear c32
               (first | rw [c32b0] | (simp only [i64_w, i32_w]; rw [c32b0]) | skip)
               have H' := Aside0.mk H
               clear H
               go_wp2
               go_meet
               case rel => exact ⟨_, (false), (by first | rfl | (simp; done) | (simp [*]; done)), H', ⟨by have := HJ9.out; have := HJ21.out; have := HK3.out; first | omega | exact Nat.le_refl _⟩, ⟨hB HB.out⟩⟩
             case rest =>
              clear HC31
              try clear c1
              try clear c4
              try clear c18
              try clear c20
              try clear c29
              try clear c30
              try clear c30b0
              try clear c30b1
              obtain ⟨kq, x206_30, rfl, HA, HJ30, HB⟩ := hcut
              cases kq with
              | zero => exact absurd HA.out (by simp [laws_FnVisitsChance.j3])
              | succ kj30 =>
               have H := HA.out
               clear HA
               simp only [laws_FnVisitsChance.j3] at H
               by_cases c33 : x206_30 = true
               ·subst c33
                rw [if_pos rfl] at H
                try dsimp only at H
                replace H := Option.bind_eq_some_iff.mp H
                obtain ⟨⟨t307, t308⟩, A340, H⟩ := H
                try dsimp only at H
                have A34 := Aside0.mk A340
                clear A340
                by_cases c35 : t308 = true
                ·subst c35
                 rw [if_pos rfl] at H
                 try dsimp only at H
                 have H' := Aside0.mk H
                 clear H
                 go_wp2_with (first | ((with_reducible refine gate_callee (f := 24) rfl ?_); refine goesL_ (some 212) rfl rfl Try.func24 (by kernel_rfl) rfl #[.int .i64 t291, .int .i64 x21_3] rfl (by (try simp only [List.map_toArray, List.map_cons, List.map_nil]); first | done | rfl | (simp only [List.length_drop, List.length_take]; rfl)) ?_; (with_reducible refine (impl_CountApart.calls kj30 t291 x21_3 t307 true _ A34.out).mono ?_); rintro e w36 ⟨rfl, hb⟩; refine ⟨_, rfl, ?_⟩; have n0_ := Aside0.mk (below_step (hB HB.out) hb); clear HB; have HB := n0_; clear n0_; (try clear hb); (try clear hb2); (try clear hk); (try clear hi)))
                 go_roundg kj30
                 case measure => have := HJ9.out; have := HJ21.out; have := HK3.out; have := HJ30.out; omega
                 case rel => exact ⟨(wrap64 (x20_3 + t307)), (wrap64 (x21_3 + 1)), (by first | rfl | (simp; done) | (simp [*]; done)), (by first | rfl | (simp; done) | (simp [*]; done)), H', ⟨by have := HJ9.out; have := HJ21.out; have := HK3.out; have := HJ30.out; omega⟩, ⟨hB HB.out⟩⟩
                ·replace c35 := Bool.eq_false_iff.mpr c35
                 subst c35
                 rw [if_neg (show ¬ (false = true) by decide)] at H
                 try dsimp only at H
                 obtain rfl := Option.some.inj H
                 go_wp2_with (first | ((with_reducible refine gate_callee (f := 24) rfl ?_); refine goesL_ (some 212) rfl rfl Try.func24 (by kernel_rfl) rfl #[.int .i64 t291, .int .i64 x21_3] rfl (by (try simp only [List.map_toArray, List.map_cons, List.map_nil]); first | done | rfl | (simp only [List.length_drop, List.length_take]; rfl)) ?_; (with_reducible refine (impl_CountApart.calls kj30 t291 x21_3 t307 false _ A34.out).mono ?_); rintro e w37 ⟨rfl, hb⟩; refine ⟨_, rfl, ?_⟩; have n0_ := Aside0.mk (below_step (hB HB.out) hb); clear HB; have HB := n0_; clear n0_; (try clear hb); (try clear hb2); (try clear hk); (try clear hi)))
                 go_ret
                 exact ⟨by first | rfl | (simp [errW_none, errW_some] <;> rfl) | (simp [*, errW_none, errW_some] <;> rfl), hB HB.out⟩
               ·replace c33 := Bool.eq_false_iff.mpr c33
                subst c33
                rw [if_neg (show ¬ (false = true) by decide)] at H
                try dsimp only at H
                by_cases c38 : x20_3 = t294
                ·rw [if_pos c38] at H
                 have c38b0 : (x20_3 == t294) = true := beq_iff_eq.mpr c38
                 have c38b1 : (x20_3 != t294) = false := bne_eq_false_iff_eq.mpr c38
                 clear c38
                 have HC39 := Aside0.mk H
                 clear H
                 go_upto_region 25 with (fail)
                 go_cut [228] from 592 (fun v228 wc => ∃ (kq : Nat) (x228_38 : Bool), v228 = .bool x228_38 ∧ Aside0 (laws_FnVisitsChance.j4 kq l1 t291 t292 t294 x228_38 = some r) ∧ Aside0 (kq ≤ kj30) ∧ Aside0 (Below w.heap.size w wc))
                 case first =>
                  have H := HC39.out
                  clear HC39
                  by_cases c40 : t291 ≤ 50
                  ·rw [if_pos c40] at H
                   have c40b0 : decide (t291 ≤ 50) = true := decide_eq_true c40
                   clear c40
                   (first | rw [c40b0] | (simp only [i64_w, i32_w]; rw [c40b0]) | skip)
                   have H' := Aside0.mk H
                   clear H
                   go_wp2
                   go_meet
                   case rel => exact ⟨_, (decide (t292 ≤ 50)), (by first | rfl | (simp; done) | (simp [*]; done)), H', ⟨by have := HJ9.out; have := HJ21.out; have := HK3.out; have := HJ30.out; first | omega | exact Nat.le_refl _⟩, ⟨hB HB.out⟩⟩
                  ·rw [if_neg c40] at H
                   have c40b0 : decide (t291 ≤ 50) = false := decide_eq_false c40
                   clear c40
                   (first | rw [c40b0] | (simp only [i64_w, i32_w]; rw [c40b0]) | skip)
                   have H' := Aside0.mk H
                   clear H
                   go_wp2
                   go_meet
                   case rel => exact ⟨_, (false), (by first | rfl | (simp; done) | (simp [*]; done)), H', ⟨by have := HJ9.out; have := HJ21.out; have := HK3.out; have := HJ30.out; first | omega | exact Nat.le_refl _⟩, ⟨hB HB.out⟩⟩
                 case rest =>
                  clear HC39
                  try clear c1
                  try clear c4
                  try clear c18
                  try clear c20
                  try clear c29
                  try clear c30
                  try clear c30b0
                  try clear c30b1
                  try clear c33
                  try clear c35
                  try clear c38
                  try clear c38b0
                  try clear c38b1
                  obtain ⟨kq, x228_38, rfl, HA, HJ38, HB⟩ := hcut
                  cases kq with
                  | zero => exact absurd HA.out (by simp [laws_FnVisitsChance.j4])
                  | succ kj38 =>
                   have H := HA.out
                   clear HA
                   simp only [laws_FnVisitsChance.j4] at H
                   by_cases c41 : x228_38 = true
                   ·subst c41
                    rw [if_pos rfl] at H
                    try dsimp only at H
                    replace H := Option.bind_eq_some_iff.mp H
                    obtain ⟨⟨t309, t310⟩, A420, H⟩ := H
                    try dsimp only at H
                    have A42 := Aside0.mk A420
                    clear A420
                    by_cases c43 : t310 = true
                    ·subst c43
                     rw [if_pos rfl] at H
                     try dsimp only at H
                     by_cases c44 : t309 = t294
                     ·rw [if_pos c44] at H
                      have c44b0 : (t309 == t294) = true := beq_iff_eq.mpr c44
                      have c44b1 : (t309 != t294) = false := bne_eq_false_iff_eq.mpr c44
                      clear c44
                      have H' := Aside0.mk H
                      clear H
                      go_wp2_with (first | ((with_reducible refine gate_callee (f := 25) rfl ?_); refine goesL_ (some 232) rfl rfl Try.func25 (by kernel_rfl) rfl #[.int .i64 t291, .int .i64 2, .int .i64 t292] rfl (by (try simp only [List.map_toArray, List.map_cons, List.map_nil]); first | done | rfl | (simp only [List.length_drop, List.length_take]; rfl)) ?_; (with_reducible refine (impl_CountAllWithin.calls kj38 t291 2 t292 t309 true _ A42.out).mono ?_); rintro e w45 ⟨rfl, hb⟩; refine ⟨_, rfl, ?_⟩; have n0_ := Aside0.mk (below_step (hB HB.out) hb); clear HB; have HB := n0_; clear n0_; (try clear hb); (try clear hb2); (try clear hk); (try clear hi)))
                      go_meet
                      case rel => exact ⟨_, H', ⟨by have := HJ9.out; have := HJ21.out; have := HK3.out; have := HJ30.out; have := HJ38.out; first | omega | exact Nat.le_refl _⟩, ⟨hB HB.out⟩⟩
                     ·rw [if_neg c44] at H
                      have c44b0 : (t309 == t294) = false := beq_eq_false_iff_ne.mpr c44
                      have c44b1 : (t309 != t294) = true := bne_iff_ne.mpr c44
                      obtain rfl := Option.some.inj H
                      go_wp2_with (first | ((with_reducible refine gate_callee (f := 25) rfl ?_); refine goesL_ (some 232) rfl rfl Try.func25 (by kernel_rfl) rfl #[.int .i64 t291, .int .i64 2, .int .i64 t292] rfl (by (try simp only [List.map_toArray, List.map_cons, List.map_nil]); first | done | rfl | (simp only [List.length_drop, List.length_take]; rfl)) ?_; (with_reducible refine (impl_CountAllWithin.calls kj38 t291 2 t292 t309 true _ A42.out).mono ?_); rintro e w46 ⟨rfl, hb⟩; refine ⟨_, rfl, ?_⟩; have n0_ := Aside0.mk (below_step (hB HB.out) hb); clear HB; have HB := n0_; clear n0_; (try clear hb); (try clear hb2); (try clear hk); (try clear hi)))
                      go_ret
                      exact ⟨by first | rfl | (simp [errW_none, errW_some] <;> rfl) | (simp [*, errW_none, errW_some] <;> rfl), hB HB.out⟩
                    ·replace c43 := Bool.eq_false_iff.mpr c43
                     subst c43
                     rw [if_neg (show ¬ (false = true) by decide)] at H
                     try dsimp only at H
                     obtain rfl := Option.some.inj H
                     go_wp2_with (first | ((with_reducible refine gate_callee (f := 25) rfl ?_); refine goesL_ (some 232) rfl rfl Try.func25 (by kernel_rfl) rfl #[.int .i64 t291, .int .i64 2, .int .i64 t292] rfl (by (try simp only [List.map_toArray, List.map_cons, List.map_nil]); first | done | rfl | (simp only [List.length_drop, List.length_take]; rfl)) ?_; (with_reducible refine (impl_CountAllWithin.calls kj38 t291 2 t292 t309 false _ A42.out).mono ?_); rintro e w47 ⟨rfl, hb⟩; refine ⟨_, rfl, ?_⟩; have n0_ := Aside0.mk (below_step (hB HB.out) hb); clear HB; have HB := n0_; clear n0_; (try clear hb); (try clear hb2); (try clear hk); (try clear hi)))
                     go_ret
                     exact ⟨by first | rfl | (simp [errW_none, errW_some] <;> rfl) | (simp [*, errW_none, errW_some] <;> rfl), hB HB.out⟩
                   ·replace c41 := Bool.eq_false_iff.mpr c41
                    subst c41
                    rw [if_neg (show ¬ (false = true) by decide)] at H
                    try dsimp only at H
                    have H' := Aside0.mk H
                    clear H
                    go_wp2
                    go_meet
                    case rel => exact ⟨_, H', ⟨by have := HJ9.out; have := HJ21.out; have := HK3.out; have := HJ30.out; have := HJ38.out; first | omega | exact Nat.le_refl _⟩, ⟨hB HB.out⟩⟩
                ·rw [if_neg c38] at H
                 have c38b0 : (x20_3 == t294) = false := beq_eq_false_iff_ne.mpr c38
                 have c38b1 : (x20_3 != t294) = true := bne_iff_ne.mpr c38
                 obtain rfl := Option.some.inj H
                 go_wp2
                 go_ret
                 exact ⟨by first | rfl | (simp [errW_none, errW_some] <;> rfl) | (simp [*, errW_none, errW_some] <;> rfl), hB HB.out⟩
          ·rw [if_neg c30] at H
           have c30b0 : (t292 == t293) = false := beq_eq_false_iff_ne.mpr c30
           have c30b1 : (t292 != t293) = true := bne_iff_ne.mpr c30
           have H' := Aside0.mk H
           clear H
           go_wp2
           go_meet
           case rel => exact ⟨_, H', ⟨by have := HJ9.out; have := HJ21.out; first | omega | exact Nat.le_refl _⟩, ⟨hB HB.out⟩⟩
      ·replace c20 := Bool.eq_false_iff.mpr c20
       subst c20
       rw [if_neg (show ¬ (false = true) by decide)] at H
       try dsimp only at H
       have H' := Aside0.mk H
       clear H
       go_wp2
       go_meet
       case rel => exact ⟨_, H', ⟨by have := HJ9.out; first | omega | exact Nat.le_refl _⟩, ⟨hB HB.out⟩⟩
     case rest =>
      rename_i K0_ a0_
      exact a0_ _ _ (h2 k A0 c0 l0 A1 c1 l1 r w HR1 HC1 t291 t292 t293 t294 t295 t296 t297 t298 t299 t300 t301 t302 t303 kj9 HJ9 u124 u125 u126 u127 u128 u129 u130 u131 u132 u133 u134 u135 u136 u137 u138 u139 u140 u141 u142 u143 u144 u145 u146 u147 u148 u149 u150 u4 u18 u19 u20 u21 u22 u23 u24 u25 u153 u154 u155 u156 u157 u158 u159 u160 u161 u162 u163 u164 u165 u166 u167 u168 u169 u170 u171 u172 u173 u174 u175 u176 u177 u178 u179 u180 u181 u182 u183 u184 u185 u186 u187 u188 u189 u190 u191 u192 u193 u194 u195 u196 u197 u198 u199 u200 u201 u202 u203 u204 u205 u206 u207 u208 u209 u210 u211 u212 u213 u214 u215 u216 u217 u218 u219 u220 u221 u222 u223 u224 u225 u226 u227 u228 u229 u230 u231 u232 u233 u234 u235 u236 u237 u238 u239 u240 u241 wc hcut)

end Go.Proofs.Ytojbcpklmegjpaa.QFnVisitsChance
