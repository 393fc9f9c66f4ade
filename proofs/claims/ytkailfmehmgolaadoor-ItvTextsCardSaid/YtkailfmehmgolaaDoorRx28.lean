-- WRITTEN BY this session's program wip/ext.py, in print.py's manner
import Derived.Test.YtkailfmehmgolaaDoorRx0
import Derived.Test.YtkailfmehmgolaaDoorRx1
import Derived.Test.YtkailfmehmgolaaDoorRx7
import Derived.Test.YtkailfmehmgolaaDoorRx8
import Derived.Test.YtkailfmehmgolaaDoorRx13
import Derived.Test.YtkailfmehmgolaaDoorRx14
import Derived.Test.YtkailfmehmgolaaDoorRx15
import Derived.Test.YtkailfmehmgolaaDoorRx26
import Derived.Test.YtkailfmehmgolaaDoorRx27
namespace Go.Proofs.YtkailfmehmgolaaDoor.R
open Go.RowKit Go.Proofs.YtkailfmehmgolaaDoorW.PrintWords Go.Proofs.YtkailfmehmgolaaDoorW.PrintLast Go.Proofs.YtkailfmehmgolaaDoorW.PrintMore
attribute [local go_sem] max2_int min2_int max_two min_two max_three min_three max_four min_four   -- for this text's walks alone
set_option linter.unusedVariables false
set_option linter.unusedSimpArgs false

attribute [local go_sem high] eqA23
/-! ### warrantorlaw07_ItvTexts: function 7 -/
def warrantorlaw07_ItvTexts.f (k : Nat) (a0_0 : Int) (a0_1 : Int) (a1 : ByteArray) : Option (Bool) := if (a1.size : Int) > 1000 then ((warrantorlaw07_lives.f k).bind fun t562 => (some t562)) else ((itv_Show.f a0_0 a0_1).bind fun t563 => ((itv_Parse.f t563).bind fun bt564 => ((itv_Parse.f a1).bind fun bt568 => ((warrantorref07_Parse.f k a1).bind fun bt572 => ((warrantorlaw07_lives.f k).bind fun t576 => (if t576 = true then ((warrantorref07_Show.f k a0_0 a0_1).bind fun t577 => (if t563.toList = t577.toList then (if bt564.2.2 = 0 then ((warrantorref07_Plain.f k a0_0 a0_1).bind fun bt578 => (if (bt564.1 == bt578.1 && (bt564.2.1 == bt578.2)) = true then (if (bt568.1 == bt572.1 && (bt568.2.1 == bt572.2.1)) = true then (if ((bt568.2.2 == 0) == bt572.2.2) = true then (if bt572.2.2 = true then (some true) else (some (bt568.2.2 == 70))) else (none)) else (none)) else (none))) else (none)) else (none))) else (none)))))))
theorem warrantorlaw07_ItvTexts.mono : ∀ a0 a1 a2 k, LeO (warrantorlaw07_ItvTexts.f k a0 a1 a2) (warrantorlaw07_ItvTexts.f (k + 1) a0 a1 a2) := by
  intro a0 a1 a2 k
  unfold warrantorlaw07_ItvTexts.f
  repeat' first
      | (with_reducible exact warrantorlaw07_lives.mono _)
      | (with_reducible exact warrantorref07_Parse.mono _ _)
      | (with_reducible exact warrantorref07_Plain.mono _ _ _)
      | (with_reducible exact warrantorref07_Show.mono _ _ _)
      | (with_reducible exact LeO.refl _)
      | (with_reducible exact LeO.none _)
      | (with_reducible refine LeO.ite ?_ ?_)
      | (with_reducible refine LeO.bind ?_ (fun _ => ?_))
      | exact warrantorlaw07_lives.mono _
      | exact warrantorref07_Parse.mono _ _
      | exact warrantorref07_Plain.mono _ _ _
      | exact warrantorref07_Show.mono _ _ _
      | exact LeO.none _
      | refine LeO.ite ?_ ?_
      | refine LeO.bind ?_ (fun _ => ?_)
def warrantorlaw07_ItvTexts.T7 : Bool × List (List Nat × List Nat) := (true, [([], []), ([0, 0], [0]), ([1], [1]), ([1], [1]), ([3, 1, 1], [1, 3]), ([2, 4, 1], [1, 2, 4]), ([1, 5], [1, 5]), ([6, 4], [6]), ([7], [7]), ([8, 7], [7, 8]), ([7, 9], [7, 9]), ([10, 7], [10]), ([11], [11]), ([11], [11]), ([13, 11, 11], [11, 13]), ([12, 14, 11], [11, 12, 14]), ([11, 15], [11, 15]), ([16, 14], [16]), ([17], [17]), ([17], [17]), ([18, 19, 17], [17, 18, 19]), ([17, 20], [17, 20]), ([21, 17], [21]), ([22], [22]), ([23, 22], [22, 23]), ([22], [22]), ([24, 25, 22], [22, 24, 25]), ([22, 26], [22, 26]), ([27, 22], [27]), ([28], [28]), ([29, 28, 28], [28, 29]), ([30], [30]), ([31, 30], [30, 31]), ([30, 32, 28], [28, 30, 32]), ([28, 33], [28, 33]), ([34, 30, 0, 1, 2, 3, 4, 5, 6, 7, 8, 9, 10, 11, 12, 13, 14, 15, 16, 17, 18, 19, 20, 21, 22, 23, 24, 25, 26, 27, 28, 29, 30, 31, 32, 33, 34], [34])])
def warrantorlaw07_ItvTexts.B7 : List Nat := [0, 1, 3, 3, 11, 31, 63, 127, 255, 511, 1023, 2047, 4095, 4095, 12287, 32767, 65535, 131071, 262143, 262143, 1048575, 2097151, 4194303, 8388607, 16777215, 8388607, 67108863, 134217727, 268435455, 536870911, 1073741823, 2147483647, 4294967295, 8589934591, 17179869183, 34359738367]
theorem warrantorlaw07_ItvTexts.tab7 : rtab .any (opsOf Tryd.f7 7) = warrantorlaw07_ItvTexts.T7 := by kernel_rfl
theorem warrantorlaw07_ItvTexts.bits7 : waitsOk warrantorlaw07_ItvTexts.T7.2 warrantorlaw07_ItvTexts.B7 = true := by kernel_rfl
set_option maxHeartbeats 8000000 in
set_option maxRecDepth 100000 in
theorem warrantorlaw07_ItvTexts.calls (k : Nat) (a0_0 : Int) (a0_1 : Int) (a1 : ByteArray) (r : Bool) (w : World) (htab : TB w) (h : warrantorlaw07_ItvTexts.f k a0_0 a0_1 a1 = some r) :
    Calls Tryd.prog 7 #[.agg #[.int .i64 a0_0, .int .i64 a0_1], .string a1] w fun e w' => e = .returned (.bool r) ∧ Below w.heap.size w w' := by
  have HTB := Aside0.mk htab
  clear htab
  have hu23 := Tryd.underlying23
  have HB := Aside0.mk (Below.refl w.heap.size w)
  have H : (if (a1.size : Int) > 1000 then ((warrantorlaw07_lives.f k).bind fun t562 => (some t562)) else ((itv_Show.f a0_0 a0_1).bind fun t563 => ((itv_Parse.f t563).bind fun bt564 => ((itv_Parse.f a1).bind fun bt568 => ((warrantorref07_Parse.f k a1).bind fun bt572 => ((warrantorlaw07_lives.f k).bind fun t576 => (if t576 = true then ((warrantorref07_Show.f k a0_0 a0_1).bind fun t577 => (if t563.toList = t577.toList then (if bt564.2.2 = 0 then ((warrantorref07_Plain.f k a0_0 a0_1).bind fun bt578 => (if (bt564.1 == bt578.1 && (bt564.2.1 == bt578.2)) = true then (if (bt568.1 == bt572.1 && (bt568.2.1 == bt572.2.1)) = true then (if ((bt568.2.2 == 0) == bt572.2.2) = true then (if bt572.2.2 = true then (some true) else (some (bt568.2.2 == 70))) else (none)) else (none)) else (none))) else (none)) else (none))) else (none)))))))) = some r := h
  clear h
  by_cases c3 : (a1.size : Int) > 1000
  · rw [if_pos c3] at H
    have c3b0 : decide (1000 < (a1.size : Int)) = true := decide_eq_true c3
    have c3b1 : decide (1000 < a1.size) = true := decide_eq_true (by omega)
    clear c3
    replace H := Option.bind_eq_some_iff.mp H
    obtain ⟨t562, A40, H⟩ := H
    replace H : (some t562) = some r := H
    have A4 := Aside0.mk A40
    clear A40
    obtain rfl := Option.some.inj H
    go_enter Tryd.func7, Tryd.ntmps7
    go_wp2_with (first | ((with_reducible refine gate_dst (N := 2) rfl ?_); refine box_event ?hg (N := 2) ?hd (cs := #[.int .i64 a0_0, .int .i64 a0_1]) (t := 23) ?hr ?_; (case hd => rfl); (case hg => rfl); (case hr => first | (go_simp; done) | (go_simp; rfl)); intro gb561 hg w5 hbox hb; have n0_ := Aside0.mk (below_step HB_ hb); have n1_ := Aside0.mk (hbox); have n2_ := Aside0.mk ((by rw [hg]; exact (below_size HB_) : w.heap.size ≤ gb561)); have n3_ := Aside0.mk ((by rw [hg]; exact (below_size HB_) : w.heap.size ≤ gb561)); clear HB; have HB := n0_; have BK561 := n1_; have GW561 := n2_; have GE561 := n3_; clear n0_ n1_ n2_ n3_; clear hb hbox hg) | ((with_reducible refine gate_callee (f := 8) rfl ?_); refine goesL_ (some 15) rfl rfl Tryd.func8 (by kernel_rfl) rfl #[] rfl MP_ ?_; (with_reducible refine (warrantorlaw07_lives.calls k  t562 _ (tb_below HTB.out HB_) A4.out).mono ?_); rintro e w6 ⟨rfl, hb⟩; refine ⟨_, rfl, ?_⟩; have n0_ := Aside0.mk (blk_below (g := gb561) (o := .cells #[.int .i64 a0_0, .int .i64 a0_1] 23 (0, 0)) (bk_ BK561.out) hb); have n1_ := Aside0.mk (below_step HB_ hb); clear BK561; clear HB; have BK561 := n0_; have HB := n1_; clear n0_ n1_; (try clear hb); (try clear hb2); (try clear hk); (try clear hi)))
    go_ret
    exact ⟨by first | rfl | (simp [errW_none, errW_some] <;> rfl) | (simp [*, errW_none, errW_some] <;> rfl), by repeat (first | (with_reducible first | exact HB.out | apply below_alloc | apply pw_below_drewN | apply below_drew1 | refine below_set ?_ GE561.out) | exact HB.out)⟩
  · rw [if_neg c3] at H
    have c3b0 : decide (1000 < (a1.size : Int)) = false := decide_eq_false c3
    have c3b1 : decide (1000 < a1.size) = false := decide_eq_false (by omega)
    clear c3
    replace H := Option.bind_eq_some_iff.mp H
    obtain ⟨t563, A70, H⟩ := H
    replace H : ((itv_Parse.f t563).bind fun bt564 => ((itv_Parse.f a1).bind fun bt568 => ((warrantorref07_Parse.f k a1).bind fun bt572 => ((warrantorlaw07_lives.f k).bind fun t576 => (if t576 = true then ((warrantorref07_Show.f k a0_0 a0_1).bind fun t577 => (if t563.toList = t577.toList then (if bt564.2.2 = 0 then ((warrantorref07_Plain.f k a0_0 a0_1).bind fun bt578 => (if (bt564.1 == bt578.1 && (bt564.2.1 == bt578.2)) = true then (if (bt568.1 == bt572.1 && (bt568.2.1 == bt572.2.1)) = true then (if ((bt568.2.2 == 0) == bt572.2.2) = true then (if bt572.2.2 = true then (some true) else (some (bt568.2.2 == 70))) else (none)) else (none)) else (none))) else (none)) else (none))) else (none)))))) = some r := H
    have A7 := Aside0.mk A70
    clear A70
    replace H := Option.bind_eq_some_iff.mp H
    obtain ⟨⟨t564, t565, t566⟩, A80, H⟩ := H
    replace H : ((itv_Parse.f a1).bind fun bt568 => ((warrantorref07_Parse.f k a1).bind fun bt572 => ((warrantorlaw07_lives.f k).bind fun t576 => (if t576 = true then ((warrantorref07_Show.f k a0_0 a0_1).bind fun t577 => (if t563.toList = t577.toList then (if t566 = 0 then ((warrantorref07_Plain.f k a0_0 a0_1).bind fun bt578 => (if (t564 == bt578.1 && (t565 == bt578.2)) = true then (if (bt568.1 == bt572.1 && (bt568.2.1 == bt572.2.1)) = true then (if ((bt568.2.2 == 0) == bt572.2.2) = true then (if bt572.2.2 = true then (some true) else (some (bt568.2.2 == 70))) else (none)) else (none)) else (none))) else (none)) else (none))) else (none))))) = some r := H
    have A8 := Aside0.mk A80
    clear A80
    replace H := Option.bind_eq_some_iff.mp H
    obtain ⟨⟨t568, t569, t570⟩, A90, H⟩ := H
    replace H : ((warrantorref07_Parse.f k a1).bind fun bt572 => ((warrantorlaw07_lives.f k).bind fun t576 => (if t576 = true then ((warrantorref07_Show.f k a0_0 a0_1).bind fun t577 => (if t563.toList = t577.toList then (if t566 = 0 then ((warrantorref07_Plain.f k a0_0 a0_1).bind fun bt578 => (if (t564 == bt578.1 && (t565 == bt578.2)) = true then (if (t568 == bt572.1 && (t569 == bt572.2.1)) = true then (if ((t570 == 0) == bt572.2.2) = true then (if bt572.2.2 = true then (some true) else (some (t570 == 70))) else (none)) else (none)) else (none))) else (none)) else (none))) else (none)))) = some r := H
    have A9 := Aside0.mk A90
    clear A90
    replace H := Option.bind_eq_some_iff.mp H
    obtain ⟨⟨t572, t573, t574⟩, A100, H⟩ := H
    replace H : ((warrantorlaw07_lives.f k).bind fun t576 => (if t576 = true then ((warrantorref07_Show.f k a0_0 a0_1).bind fun t577 => (if t563.toList = t577.toList then (if t566 = 0 then ((warrantorref07_Plain.f k a0_0 a0_1).bind fun bt578 => (if (t564 == bt578.1 && (t565 == bt578.2)) = true then (if (t568 == t572 && (t569 == t573)) = true then (if ((t570 == 0) == t574) = true then (if t574 = true then (some true) else (some (t570 == 70))) else (none)) else (none)) else (none))) else (none)) else (none))) else (none))) = some r := H
    have A10 := Aside0.mk A100
    clear A100
    replace H := Option.bind_eq_some_iff.mp H
    obtain ⟨t576, A110, H⟩ := H
    replace H : (if t576 = true then ((warrantorref07_Show.f k a0_0 a0_1).bind fun t577 => (if t563.toList = t577.toList then (if t566 = 0 then ((warrantorref07_Plain.f k a0_0 a0_1).bind fun bt578 => (if (t564 == bt578.1 && (t565 == bt578.2)) = true then (if (t568 == t572 && (t569 == t573)) = true then (if ((t570 == 0) == t574) = true then (if t574 = true then (some true) else (some (t570 == 70))) else (none)) else (none)) else (none))) else (none)) else (none))) else (none)) = some r := H
    have A11 := Aside0.mk A110
    clear A110
    by_cases c12 : t576 = true
    · subst c12
      have H1 : ((warrantorref07_Show.f k a0_0 a0_1).bind fun t577 => (if t563.toList = t577.toList then (if t566 = 0 then ((warrantorref07_Plain.f k a0_0 a0_1).bind fun bt578 => (if (t564 == bt578.1 && (t565 == bt578.2)) = true then (if (t568 == t572 && (t569 == t573)) = true then (if ((t570 == 0) == t574) = true then (if t574 = true then (some true) else (some (t570 == 70))) else (none)) else (none)) else (none))) else (none)) else (none))) = some r := by rw [if_pos rfl] at H; exact H
      clear H
      have H := H1
      clear H1
      replace H := Option.bind_eq_some_iff.mp H
      obtain ⟨t577, A130, H⟩ := H
      replace H : (if t563.toList = t577.toList then (if t566 = 0 then ((warrantorref07_Plain.f k a0_0 a0_1).bind fun bt578 => (if (t564 == bt578.1 && (t565 == bt578.2)) = true then (if (t568 == t572 && (t569 == t573)) = true then (if ((t570 == 0) == t574) = true then (if t574 = true then (some true) else (some (t570 == 70))) else (none)) else (none)) else (none))) else (none)) else (none)) = some r := H
      have A13 := Aside0.mk A130
      clear A130
      by_cases c14 : t563.toList = t577.toList
      · rw [if_pos c14] at H
        have c14b0 : (t563.toList == t577.toList) = true := beq_iff_eq.mpr c14
        have c14b1 : (t563.toList != t577.toList) = false := bne_eq_false_iff_eq.mpr c14
        clear c14
        by_cases c15 : t566 = 0
        · rw [if_pos c15] at H
          have c15b0 : (t566 == 0) = true := beq_iff_eq.mpr c15
          have c15b1 : (t566 != 0) = false := bne_eq_false_iff_eq.mpr c15
          clear c15
          replace H := Option.bind_eq_some_iff.mp H
          obtain ⟨⟨t578, t579⟩, A160, H⟩ := H
          replace H : (if (t564 == t578 && (t565 == t579)) = true then (if (t568 == t572 && (t569 == t573)) = true then (if ((t570 == 0) == t574) = true then (if t574 = true then (some true) else (some (t570 == 70))) else (none)) else (none)) else (none)) = some r := H
          have A16 := Aside0.mk A160
          clear A160
          by_cases c17 : (t564 == t578 && (t565 == t579)) = true
          · rw [if_pos c17] at H
            have c17b0 : (t564 == t578 && (t565 == t579)) = true := c17
            (try (have c17b1 : decide (t564 = t578 && (t565 == t579)) = true := by simpa using c17))
            (try (have c17b2 : (t564 == t578 && (t565 == t579)) = true := by simpa using c17))
            clear c17
            by_cases c18 : (t568 == t572 && (t569 == t573)) = true
            · rw [if_pos c18] at H
              have c18b0 : (t568 == t572 && (t569 == t573)) = true := c18
              (try (have c18b1 : decide (t568 = t572 && (t569 == t573)) = true := by simpa using c18))
              (try (have c18b2 : (t568 == t572 && (t569 == t573)) = true := by simpa using c18))
              clear c18
              by_cases c19 : ((t570 == 0) == t574) = true
              · rw [if_pos c19] at H
                have c19b0 : ((t570 == 0) == t574) = true := c19
                (try (have c19b1 : decide ((t570 == 0) = t574) = true := by simpa using c19))
                (try (have c19b2 : ((t570 == 0) == t574) = true := by simpa using c19))
                clear c19
                by_cases c20 : t574 = true
                · subst c20
                  have H1 : (some true) = some r := by rw [if_pos rfl] at H; exact H
                  clear H
                  have H := H1
                  clear H1
                  obtain rfl := Option.some.inj H
                  go_enter Tryd.func7, Tryd.ntmps7
                  try go_wp2_with (first | ((with_reducible refine gate_dst (N := 2) rfl ?_); refine box_event ?hg (N := 2) ?hd (cs := #[.int .i64 a0_0, .int .i64 a0_1]) (t := 23) ?hr ?_; (case hd => rfl); (case hg => rfl); (case hr => first | (go_simp; done) | (go_simp; rfl)); intro gb561 hg w21 hbox hb; have n0_ := Aside0.mk (below_step HB_ hb); have n1_ := Aside0.mk (hbox); have n2_ := Aside0.mk ((by rw [hg]; exact (below_size HB_) : w.heap.size ≤ gb561)); have n3_ := Aside0.mk ((by rw [hg]; exact (below_size HB_) : w.heap.size ≤ gb561)); clear HB; have HB := n0_; have BK561 := n1_; have GW561 := n2_; have GE561 := n3_; clear n0_ n1_ n2_ n3_; clear hb hbox hg; have hcz22_0 : w21.cell? ⟨gb561, 0, none⟩ = some (.int .i64 a0_0) := (blk_cell BK561.out 0).trans rfl; have hcz22_1 : w21.cell? ⟨gb561, 1, none⟩ = some (.int .i64 a0_1) := (blk_cell BK561.out 1).trans rfl; have hfz22_0 := blk_frozen BK561.out 0; have hfz22_1 := blk_frozen BK561.out 1) | ((with_reducible refine gate_callee (f := 34) rfl ?_); refine goesL_ (some 17) rfl rfl Tryd.func34 (by kernel_rfl) rfl #[.agg #[.int .i64 a0_0, .int .i64 a0_1]] rfl MP_ ?_; (with_reducible refine (itv_Show.calls a0_0 a0_1 t563 _ (tb_below HTB.out HB_) A7.out).mono ?_); rintro e w23 ⟨rfl, hb⟩; refine ⟨_, rfl, ?_⟩; have n0_ := Aside0.mk (blk_below (g := gb561) (o := .cells #[.int .i64 a0_0, .int .i64 a0_1] 23 (0, 0)) (bk_ BK561.out) hb); have n1_ := Aside0.mk (below_step HB_ hb); clear BK561; clear HB; have BK561 := n0_; have HB := n1_; clear n0_ n1_; (try clear hb); (try clear hb2); (try clear hk); (try clear hi)) | ((with_reducible refine gate_callee (f := 35) rfl ?_); refine goesL_ (some 20) rfl rfl Tryd.func35 (by kernel_rfl) rfl #[.string t563] rfl MP_ ?_; (with_reducible refine (itv_Parse.calls t563 t564 t565 t566 _ (tb_below HTB.out HB_) A8.out).mono ?_); rintro e w24 ⟨rfl, hb⟩; refine ⟨_, rfl, ?_⟩; have n0_ := Aside0.mk (blk_below (g := gb561) (o := .cells #[.int .i64 a0_0, .int .i64 a0_1] 23 (0, 0)) (bk_ BK561.out) hb); have n1_ := Aside0.mk (below_step HB_ hb); clear BK561; clear HB; have BK561 := n0_; have HB := n1_; clear n0_ n1_; (try clear hb); (try clear hb2); (try clear hk); (try clear hi)) | ((with_reducible refine gate_dst (N := 6) rfl ?_); refine box_event ?hg (N := 6) ?hd (cs := #[.int .i64 0, .int .i64 0]) (t := 23) ?hr ?_; (case hd => rfl); (case hg => rfl); (case hr => first | (go_simp; done) | (go_simp; rfl)); intro gb567 hg w25 hbox hb; have n0_ := Aside0.mk (blk_below (g := gb561) (o := .cells #[.int .i64 a0_0, .int .i64 a0_1] 23 (0, 0)) (bk_ BK561.out) hb); have n1_ := Aside0.mk (below_step HB_ hb); have n2_ := Aside0.mk (hbox); have n3_ := Aside0.mk ((by rw [hg]; exact (below_size HB_) : w.heap.size ≤ gb567)); have n4_ := Aside0.mk ((by rw [hg]; exact (below_size HB_) : w.heap.size ≤ gb567)); have n5_ := Aside0.mk ((by rw [hg]; exact Nat.ne_of_lt (blk_lt (g := gb561) (o := .cells #[.int .i64 a0_0, .int .i64 a0_1] 23 (0, 0)) (bk_ BK561.out)) : gb561 ≠ gb567)); have n6_ := Aside0.mk ((by rw [hg]; exact Nat.ne_of_gt (blk_lt (g := gb561) (o := .cells #[.int .i64 a0_0, .int .i64 a0_1] 23 (0, 0)) (bk_ BK561.out)) : gb567 ≠ gb561)); clear BK561; clear HB; have BK561 := n0_; have HB := n1_; have BK567 := n2_; have GW567 := n3_; have GE567 := n4_; have NB561_567 := n5_; have NB567_561 := n6_; clear n0_ n1_ n2_ n3_ n4_ n5_ n6_; clear hb hbox hg; have hnb26 := NB567_561.out; have hnc26 := NB561_567.out; have hcz27_0 : w25.cell? ⟨gb567, 0, none⟩ = some (.int .i64 0) := (blk_cell BK567.out 0).trans rfl; have hcz27_1 : w25.cell? ⟨gb567, 1, none⟩ = some (.int .i64 0) := (blk_cell BK567.out 1).trans rfl; have hfz27_0 := blk_frozen BK567.out 0; have hfz27_1 := blk_frozen BK567.out 1) | ((with_reducible refine gate_callee (f := 35) rfl ?_); refine goesL_ (some 25) rfl rfl Tryd.func35 (by kernel_rfl) rfl #[.string a1] rfl MP_ ?_; (with_reducible refine (itv_Parse.calls a1 t568 t569 t570 _ (tb_below HTB.out HB_) A9.out).mono ?_); rintro e w28 ⟨rfl, hb⟩; refine ⟨_, rfl, ?_⟩; have n0_ := Aside0.mk (blk_below (g := gb561) (o := .cells #[.int .i64 a0_0, .int .i64 a0_1] 23 (0, 0)) (bk2_ BK561.out) hb); have n1_ := Aside0.mk (blk_below (g := gb567) (o := .cells #[.int .i64 t564, .int .i64 t565] 23 (0, 0)) (bk2_ BK567.out) hb); have n2_ := Aside0.mk (below_step HB_ hb); clear BK561; clear BK567; clear HB; have BK561 := n0_; have BK567 := n1_; have HB := n2_; clear n0_ n1_ n2_; (try clear hb); (try clear hb2); (try clear hk); (try clear hi)) | ((with_reducible refine gate_dst (N := 8) rfl ?_); refine box_event ?hg (N := 8) ?hd (cs := #[.int .i64 0, .int .i64 0]) (t := 23) ?hr ?_; (case hd => rfl); (case hg => rfl); (case hr => first | (go_simp; done) | (go_simp; rfl)); intro gb571 hg w29 hbox hb; have n0_ := Aside0.mk (blk_below (g := gb561) (o := .cells #[.int .i64 a0_0, .int .i64 a0_1] 23 (0, 0)) (bk_ BK561.out) hb); have n1_ := Aside0.mk (blk_below (g := gb567) (o := .cells #[.int .i64 t564, .int .i64 t565] 23 (0, 0)) (bk_ BK567.out) hb); have n2_ := Aside0.mk (below_step HB_ hb); have n3_ := Aside0.mk (hbox); have n4_ := Aside0.mk ((by rw [hg]; exact (below_size HB_) : w.heap.size ≤ gb571)); have n5_ := Aside0.mk ((by rw [hg]; exact (below_size HB_) : w.heap.size ≤ gb571)); have n6_ := Aside0.mk ((by rw [hg]; exact Nat.ne_of_lt (blk_lt (g := gb561) (o := .cells #[.int .i64 a0_0, .int .i64 a0_1] 23 (0, 0)) (bk_ BK561.out)) : gb561 ≠ gb571)); have n7_ := Aside0.mk ((by rw [hg]; exact Nat.ne_of_gt (blk_lt (g := gb561) (o := .cells #[.int .i64 a0_0, .int .i64 a0_1] 23 (0, 0)) (bk_ BK561.out)) : gb571 ≠ gb561)); have n8_ := Aside0.mk ((by rw [hg]; exact Nat.ne_of_lt (blk_lt (g := gb567) (o := .cells #[.int .i64 t564, .int .i64 t565] 23 (0, 0)) (bk_ BK567.out)) : gb567 ≠ gb571)); have n9_ := Aside0.mk ((by rw [hg]; exact Nat.ne_of_gt (blk_lt (g := gb567) (o := .cells #[.int .i64 t564, .int .i64 t565] 23 (0, 0)) (bk_ BK567.out)) : gb571 ≠ gb567)); clear BK561; clear BK567; clear HB; have BK561 := n0_; have BK567 := n1_; have HB := n2_; have BK571 := n3_; have GW571 := n4_; have GE571 := n5_; have NB561_571 := n6_; have NB571_561 := n7_; have NB567_571 := n8_; have NB571_567 := n9_; clear n0_ n1_ n2_ n3_ n4_ n5_ n6_ n7_ n8_ n9_; clear hb hbox hg; have hnb30 := NB571_561.out; have hnc30 := NB561_571.out; have hnb31 := NB571_567.out; have hnc31 := NB567_571.out; have hcz32_0 : w29.cell? ⟨gb571, 0, none⟩ = some (.int .i64 0) := (blk_cell BK571.out 0).trans rfl; have hcz32_1 : w29.cell? ⟨gb571, 1, none⟩ = some (.int .i64 0) := (blk_cell BK571.out 1).trans rfl; have hfz32_0 := blk_frozen BK571.out 0; have hfz32_1 := blk_frozen BK571.out 1) | ((with_reducible refine gate_callee (f := 36) rfl ?_); refine goesL_ (some 30) rfl rfl Tryd.func36 (by kernel_rfl) rfl #[.string a1] rfl MP_ ?_; (with_reducible refine (warrantorref07_Parse.calls k a1 t572 t573 true _ A10.out).mono ?_); rintro e w33 ⟨rfl, hb⟩; refine ⟨_, rfl, ?_⟩; have n0_ := Aside0.mk (blk_below (g := gb561) (o := .cells #[.int .i64 a0_0, .int .i64 a0_1] 23 (0, 0)) (bk2_ BK561.out) hb); have n1_ := Aside0.mk (blk_below (g := gb567) (o := .cells #[.int .i64 t564, .int .i64 t565] 23 (0, 0)) (bk2_ BK567.out) hb); have n2_ := Aside0.mk (blk_below (g := gb571) (o := .cells #[.int .i64 t568, .int .i64 t569] 23 (0, 0)) (bk2_ BK571.out) hb); have n3_ := Aside0.mk (below_step HB_ hb); clear BK561; clear BK567; clear BK571; clear HB; have BK561 := n0_; have BK567 := n1_; have BK571 := n2_; have HB := n3_; clear n0_ n1_ n2_ n3_; (try clear hb); (try clear hb2); (try clear hk); (try clear hi)) | ((with_reducible refine gate_dst (N := 10) rfl ?_); refine box_event ?hg (N := 10) ?hd (cs := #[.int .i64 0, .int .i64 0]) (t := 23) ?hr ?_; (case hd => rfl); (case hg => rfl); (case hr => first | (go_simp; done) | (go_simp; rfl)); intro gb575 hg w34 hbox hb; have n0_ := Aside0.mk (blk_below (g := gb561) (o := .cells #[.int .i64 a0_0, .int .i64 a0_1] 23 (0, 0)) (bk_ BK561.out) hb); have n1_ := Aside0.mk (blk_below (g := gb567) (o := .cells #[.int .i64 t564, .int .i64 t565] 23 (0, 0)) (bk_ BK567.out) hb); have n2_ := Aside0.mk (blk_below (g := gb571) (o := .cells #[.int .i64 t568, .int .i64 t569] 23 (0, 0)) (bk_ BK571.out) hb); have n3_ := Aside0.mk (below_step HB_ hb); have n4_ := Aside0.mk (hbox); have n5_ := Aside0.mk ((by rw [hg]; exact (below_size HB_) : w.heap.size ≤ gb575)); have n6_ := Aside0.mk ((by rw [hg]; exact (below_size HB_) : w.heap.size ≤ gb575)); have n7_ := Aside0.mk ((by rw [hg]; exact Nat.ne_of_lt (blk_lt (g := gb561) (o := .cells #[.int .i64 a0_0, .int .i64 a0_1] 23 (0, 0)) (bk_ BK561.out)) : gb561 ≠ gb575)); have n8_ := Aside0.mk ((by rw [hg]; exact Nat.ne_of_gt (blk_lt (g := gb561) (o := .cells #[.int .i64 a0_0, .int .i64 a0_1] 23 (0, 0)) (bk_ BK561.out)) : gb575 ≠ gb561)); have n9_ := Aside0.mk ((by rw [hg]; exact Nat.ne_of_lt (blk_lt (g := gb567) (o := .cells #[.int .i64 t564, .int .i64 t565] 23 (0, 0)) (bk_ BK567.out)) : gb567 ≠ gb575)); have n10_ := Aside0.mk ((by rw [hg]; exact Nat.ne_of_gt (blk_lt (g := gb567) (o := .cells #[.int .i64 t564, .int .i64 t565] 23 (0, 0)) (bk_ BK567.out)) : gb575 ≠ gb567)); have n11_ := Aside0.mk ((by rw [hg]; exact Nat.ne_of_lt (blk_lt (g := gb571) (o := .cells #[.int .i64 t568, .int .i64 t569] 23 (0, 0)) (bk_ BK571.out)) : gb571 ≠ gb575)); have n12_ := Aside0.mk ((by rw [hg]; exact Nat.ne_of_gt (blk_lt (g := gb571) (o := .cells #[.int .i64 t568, .int .i64 t569] 23 (0, 0)) (bk_ BK571.out)) : gb575 ≠ gb571)); clear BK561; clear BK567; clear BK571; clear HB; have BK561 := n0_; have BK567 := n1_; have BK571 := n2_; have HB := n3_; have BK575 := n4_; have GW575 := n5_; have GE575 := n6_; have NB561_575 := n7_; have NB575_561 := n8_; have NB567_575 := n9_; have NB575_567 := n10_; have NB571_575 := n11_; have NB575_571 := n12_; clear n0_ n1_ n2_ n3_ n4_ n5_ n6_ n7_ n8_ n9_ n10_ n11_ n12_; clear hb hbox hg; have hnb35 := NB575_561.out; have hnc35 := NB561_575.out; have hnb36 := NB575_567.out; have hnc36 := NB567_575.out; have hnb37 := NB575_571.out; have hnc37 := NB571_575.out; have hcz38_0 : w34.cell? ⟨gb575, 0, none⟩ = some (.int .i64 0) := (blk_cell BK575.out 0).trans rfl; have hcz38_1 : w34.cell? ⟨gb575, 1, none⟩ = some (.int .i64 0) := (blk_cell BK575.out 1).trans rfl; have hfz38_0 := blk_frozen BK575.out 0; have hfz38_1 := blk_frozen BK575.out 1))
                  have n0_ : Aside0 (((w34.setCell ⟨gb575, 0, none⟩ (.int .i64 t572)).setCell ⟨gb575, 1, none⟩ (.int .i64 t573)).heap[gb561]? = some (.cells #[.int .i64 a0_0, .int .i64 a0_1] 23 (0, 0))) := ⟨by (with_reducible repeat (first | refine blk_drewN ?_ _ | refine blk_drew ?_ | refine blk_alloc ?_ _)); refine blk_far ?_ NB561_575.out _; (with_reducible repeat (first | refine blk_drewN ?_ _ | refine blk_drew ?_ | refine blk_alloc ?_ _)); refine blk_far ?_ NB561_575.out _; (with_reducible repeat (first | refine blk_drewN ?_ _ | refine blk_drew ?_ | refine blk_alloc ?_ _)); exact BK561.out⟩
                  have n1_ : Aside0 (((w34.setCell ⟨gb575, 0, none⟩ (.int .i64 t572)).setCell ⟨gb575, 1, none⟩ (.int .i64 t573)).heap[gb567]? = some (.cells #[.int .i64 t564, .int .i64 t565] 23 (0, 0))) := ⟨by (with_reducible repeat (first | refine blk_drewN ?_ _ | refine blk_drew ?_ | refine blk_alloc ?_ _)); refine blk_far ?_ NB567_575.out _; (with_reducible repeat (first | refine blk_drewN ?_ _ | refine blk_drew ?_ | refine blk_alloc ?_ _)); refine blk_far ?_ NB567_575.out _; (with_reducible repeat (first | refine blk_drewN ?_ _ | refine blk_drew ?_ | refine blk_alloc ?_ _)); exact BK567.out⟩
                  have n2_ : Aside0 (((w34.setCell ⟨gb575, 0, none⟩ (.int .i64 t572)).setCell ⟨gb575, 1, none⟩ (.int .i64 t573)).heap[gb571]? = some (.cells #[.int .i64 t568, .int .i64 t569] 23 (0, 0))) := ⟨by (with_reducible repeat (first | refine blk_drewN ?_ _ | refine blk_drew ?_ | refine blk_alloc ?_ _)); refine blk_far ?_ NB571_575.out _; (with_reducible repeat (first | refine blk_drewN ?_ _ | refine blk_drew ?_ | refine blk_alloc ?_ _)); refine blk_far ?_ NB571_575.out _; (with_reducible repeat (first | refine blk_drewN ?_ _ | refine blk_drew ?_ | refine blk_alloc ?_ _)); exact BK571.out⟩
                  have n3_ : Aside0 (((w34.setCell ⟨gb575, 0, none⟩ (.int .i64 t572)).setCell ⟨gb575, 1, none⟩ (.int .i64 t573)).heap[gb575]? = some (.cells #[.int .i64 t572, .int .i64 t573] 23 (0, 0))) := ⟨by (with_reducible repeat (first | refine blk_drewN ?_ _ | refine blk_drew ?_ | refine blk_alloc ?_ _)); refine blk_put (cs := #[.int .i64 t572, .int .i64 0]) ?_ 1 _ rfl; (with_reducible repeat (first | refine blk_drewN ?_ _ | refine blk_drew ?_ | refine blk_alloc ?_ _)); refine blk_put (cs := #[.int .i64 0, .int .i64 0]) ?_ 0 _ rfl; (with_reducible repeat (first | refine blk_drewN ?_ _ | refine blk_drew ?_ | refine blk_alloc ?_ _)); exact BK575.out⟩
                  have n4_ : Aside0 (Below w.heap.size w ((w34.setCell ⟨gb575, 0, none⟩ (.int .i64 t572)).setCell ⟨gb575, 1, none⟩ (.int .i64 t573))) := ⟨by repeat (first | (with_reducible first | exact HB.out | apply below_alloc | apply pw_below_drewN | apply below_drew1 | refine below_set ?_ GE561.out | refine below_set ?_ GE567.out | refine below_set ?_ GE571.out | refine below_set ?_ GE575.out) | exact HB.out)⟩
                  (try clear BK561)
                  (try clear BK567)
                  (try clear BK571)
                  (try clear BK575)
                  (try clear HB)
                  generalize ((w34.setCell ⟨gb575, 0, none⟩ (.int .i64 t572)).setCell ⟨gb575, 1, none⟩ (.int .i64 t573)) = w39 at n0_ n1_ n2_ n3_ n4_ ⊢
                  have BK561 := n0_
                  have BK567 := n1_
                  have BK571 := n2_
                  have BK575 := n3_
                  have HB := n4_
                  clear n0_ n1_ n2_ n3_ n4_
                  first | (obtain ⟨w39, hq_⟩ : ∃ x, x = w39.drewN nd := ⟨_, rfl⟩; rw [← hq_]; have q0_ := Aside0.mk (blk_drewN BK561.out nd); rw [← hq_] at q0_; have q1_ := Aside0.mk (blk_drewN BK567.out nd); rw [← hq_] at q1_; have q2_ := Aside0.mk (blk_drewN BK571.out nd); rw [← hq_] at q2_; have q3_ := Aside0.mk (blk_drewN BK575.out nd); rw [← hq_] at q3_; have q4_ := Aside0.mk (pw_below_drewN HB.out nd); rw [← hq_] at q4_; clear BK561; clear BK567; clear BK571; clear BK575; clear HB; have BK561 := q0_; have BK567 := q1_; have BK571 := q2_; have BK575 := q3_; have HB := q4_; clear hq_ q0_ q1_ q2_ q3_ q4_) | skip
                  have n0_ := Aside0.mk (blk_drew BK561.out)
                  have n1_ := Aside0.mk (blk_drew BK567.out)
                  have n2_ := Aside0.mk (blk_drew BK571.out)
                  have n3_ := Aside0.mk (blk_drew BK575.out)
                  have n4_ := Aside0.mk (below_drew1 HB.out)
                  clear BK561
                  clear BK567
                  clear BK571
                  clear BK575
                  clear HB
                  have BK561 := n0_
                  have BK567 := n1_
                  have BK571 := n2_
                  have BK575 := n3_
                  have HB := n4_
                  clear n0_ n1_ n2_ n3_ n4_
                  refine start_ (n := 36) (S := fun w' => w'.cell? ⟨gb561, 0, none⟩ = some (.int .i64 a0_0) ∧ w'.cell? ⟨gb561, 1, none⟩ = some (.int .i64 a0_1) ∧ w'.cell? ⟨gb567, 0, none⟩ = some (.int .i64 t564) ∧ w'.cell? ⟨gb567, 1, none⟩ = some (.int .i64 t565) ∧ w'.cell? ⟨gb571, 0, none⟩ = some (.int .i64 t568) ∧ w'.cell? ⟨gb571, 1, none⟩ = some (.int .i64 t569) ∧ w'.cell? ⟨gb575, 0, none⟩ = some (.int .i64 t572) ∧ w'.cell? ⟨gb575, 1, none⟩ = some (.int .i64 t573)) (ds := []) #[false, false, false, false, false, false, false, false, false, false, false, false, false, false, false, false, false, false, false, false, false, false, false, false, false, false, false, false, false, false, false, false, false, false, false, false] (by kernel_rfl) rfl rfl ⟨(blk_cell BK561.out 0).trans rfl, (blk_cell BK561.out 1).trans rfl, (blk_cell BK567.out 0).trans rfl, (blk_cell BK567.out 1).trans rfl, (blk_cell BK571.out 0).trans rfl, (blk_cell BK571.out 1).trans rfl, (blk_cell BK575.out 0).trans rfl, (blk_cell BK575.out 1).trans rfl⟩ (fun hHeld => ?_); refine with_tabW warrantorlaw07_ItvTexts.tab7 warrantorlaw07_ItvTexts.bits7 (fun HT_ HW_ => ?_)
                  generalize w39.drew = w40 at BK561 BK567 BK571 BK575 HB hHeld ⊢
                  refine one_ (i := 0) (N := some 33) #[true, false, false, false, false, false, false, false, false, false, false, false, false, false, false, false, false, false, false, false, false, false, false, false, false, false, false, false, false, false, false, false, false, false, false, false] rfl rfl (one_of HT_.out (by kernel_rfl)) (by decide) (fun K hK => ?_)
                  refine goes_ Tryd.func8 (by kernel_rfl) rfl #[] (by rfl) rfl rfl MP_ ?_
                  with_reducible refine (warrantorlaw07_lives.calls k  true _ (tb_below HTB.out HB_) A11.out).mono ?_
                  rintro e w41 ⟨rfl, hb⟩
                  refine ⟨_, rfl, ?_⟩
                  have n0_ := Aside0.mk (blk_below (g := gb561) (o := .cells #[.int .i64 a0_0, .int .i64 a0_1] 23 (0, 0)) (bk_ BK561.out) hb)
                  have n1_ := Aside0.mk (blk_below (g := gb567) (o := .cells #[.int .i64 t564, .int .i64 t565] 23 (0, 0)) (bk_ BK567.out) hb)
                  have n2_ := Aside0.mk (blk_below (g := gb571) (o := .cells #[.int .i64 t568, .int .i64 t569] 23 (0, 0)) (bk_ BK571.out) hb)
                  have n3_ := Aside0.mk (blk_below (g := gb575) (o := .cells #[.int .i64 t572, .int .i64 t573] 23 (0, 0)) (bk_ BK575.out) hb)
                  have n4_ := Aside0.mk (below_step HB_ hb)
                  clear BK561
                  clear BK567
                  clear BK571
                  clear BK575
                  clear HB
                  have BK561 := n0_
                  have BK567 := n1_
                  have BK571 := n2_
                  have BK575 := n3_
                  have HB := n4_
                  clear n0_ n1_ n2_ n3_ n4_
                  (try clear hb)
                  (try clear hb2)
                  (try clear hk)
                  (try clear hi)
                  refine hK.out _ _ ⟨(blk_cell BK561.out 0).trans rfl, (blk_cell BK561.out 1).trans rfl, (blk_cell BK567.out 0).trans rfl, (blk_cell BK567.out 1).trans rfl, (blk_cell BK571.out 0).trans rfl, (blk_cell BK571.out 1).trans rfl, (blk_cell BK575.out 0).trans rfl, (blk_cell BK575.out 1).trans rfl⟩ (fun hHeld => ?_)
                  clear hK K
                  refine norm_ (a' := ?_) ?_ ?_
                  rotate_left
                  · show Act.put _ (some 33) _ = _
                    simp only [Act.put, List.setIfInBounds_toArray, List.set_cons_zero, List.set_cons_succ, i64_w, i32_w]
                    rfl
                  refine pure_ (i := 1) (N := some 34) (v := ?_) (a' := ?_) #[true, true, false, false, false, false, false, false, false, false, false, false, false, false, false, false, false, false, false, false, false, false, false, false, false, false, false, false, false, false, false, false, false, false, false, false] rfl rfl (any_of HT_.out (by kernel_rfl)) (fun _ _ _ h => h) (Or.inl ⟨by rfl, ?_⟩) ?_ ?_
                  rotate_left
                  · intro w'
                    go_simp
                    with_reducible rfl
                  rotate_left
                  · exact AP_
                  refine pure_ (i := 2) (N := some 35) (v := ?_) (a' := ?_) #[true, true, true, false, false, false, false, false, false, false, false, false, false, false, false, false, false, false, false, false, false, false, false, false, false, false, false, false, false, false, false, false, false, false, false, false] rfl rfl (any_of HT_.out (by kernel_rfl)) (fun _ _ _ h => h) (Or.inl ⟨by rfl, ?_⟩) ?_ ?_
                  rotate_left
                  · intro w'
                    go_simp
                    with_reducible rfl
                  rotate_left
                  · exact AP_
                  refine take_ (i := 3) (N := some 36) (v := ?_) (a' := ?_) #[true, true, true, true, false, false, false, false, false, false, false, false, false, false, false, false, false, false, false, false, false, false, false, false, false, false, false, false, false, false, false, false, false, false, false, false] rfl rfl (take_ofW HT_.out HW_.out (by kernel_rfl)) (fun _ _ _ h => h) (Or.inl ⟨by rfl, ?_⟩) hHeld ?_ ?_
                  rotate_left
                  · rintro w' ⟨s0, s1, s2, s3, s4, s5, s6, s7⟩
                    go_simp
                    with_reducible rfl
                  rotate_left
                  · exact AP_
                  refine one_ (i := 4) (N := some 37) #[true, true, true, true, true, false, false, false, false, false, false, false, false, false, false, false, false, false, false, false, false, false, false, false, false, false, false, false, false, false, false, false, false, false, false, false] rfl rfl (one_of HT_.out (by kernel_rfl)) (by decide) (fun K hK => ?_)
                  refine goes_ Tryd.func37 (by kernel_rfl) rfl #[.agg #[.int .i64 a0_0, .int .i64 a0_1]] (by rfl) rfl rfl MP_ ?_
                  with_reducible refine (warrantorref07_Show.calls k a0_0 a0_1 t577 _ A13.out).mono ?_
                  rintro e w42 ⟨rfl, hb⟩
                  refine ⟨_, rfl, ?_⟩
                  have n0_ := Aside0.mk (blk_below (g := gb561) (o := .cells #[.int .i64 a0_0, .int .i64 a0_1] 23 (0, 0)) (bk_ BK561.out) hb)
                  have n1_ := Aside0.mk (blk_below (g := gb567) (o := .cells #[.int .i64 t564, .int .i64 t565] 23 (0, 0)) (bk_ BK567.out) hb)
                  have n2_ := Aside0.mk (blk_below (g := gb571) (o := .cells #[.int .i64 t568, .int .i64 t569] 23 (0, 0)) (bk_ BK571.out) hb)
                  have n3_ := Aside0.mk (blk_below (g := gb575) (o := .cells #[.int .i64 t572, .int .i64 t573] 23 (0, 0)) (bk_ BK575.out) hb)
                  have n4_ := Aside0.mk (below_step HB_ hb)
                  clear BK561
                  clear BK567
                  clear BK571
                  clear BK575
                  clear HB
                  have BK561 := n0_
                  have BK567 := n1_
                  have BK571 := n2_
                  have BK575 := n3_
                  have HB := n4_
                  clear n0_ n1_ n2_ n3_ n4_
                  (try clear hb)
                  (try clear hb2)
                  (try clear hk)
                  (try clear hi)
                  refine hK.out _ _ ⟨(blk_cell BK561.out 0).trans rfl, (blk_cell BK561.out 1).trans rfl, (blk_cell BK567.out 0).trans rfl, (blk_cell BK567.out 1).trans rfl, (blk_cell BK571.out 0).trans rfl, (blk_cell BK571.out 1).trans rfl, (blk_cell BK575.out 0).trans rfl, (blk_cell BK575.out 1).trans rfl⟩ (fun hHeld => ?_)
                  clear hK K
                  refine norm_ (a' := ?_) ?_ ?_
                  rotate_left
                  · show Act.put _ (some 37) _ = _
                    simp only [Act.put, List.setIfInBounds_toArray, List.set_cons_zero, List.set_cons_succ, i64_w, i32_w]
                    rfl
                  refine pure_ (i := 5) (N := some 38) (v := ?_) (a' := ?_) #[true, true, true, true, true, true, false, false, false, false, false, false, false, false, false, false, false, false, false, false, false, false, false, false, false, false, false, false, false, false, false, false, false, false, false, false] rfl rfl (any_of HT_.out (by kernel_rfl)) (fun _ _ _ h => h) (Or.inl ⟨by rfl, ?_⟩) ?_ ?_
                  rotate_left
                  · intro w'
                    go_simp
                    with_reducible rfl
                  rotate_left
                  · exact AP_
                  refine pure_ (i := 6) (N := some 39) (v := ?_) (a' := ?_) #[true, true, true, true, true, true, true, false, false, false, false, false, false, false, false, false, false, false, false, false, false, false, false, false, false, false, false, false, false, false, false, false, false, false, false, false] rfl rfl (any_of HT_.out (by kernel_rfl)) (fun _ _ _ h => h) (Or.inl ⟨by rfl, ?_⟩) ?_ ?_
                  rotate_left
                  · intro w'
                    go_simp
                    with_reducible rfl
                  rotate_left
                  · exact AP_
                  refine pure_ (i := 7) (N := some 40) (v := ?_) (a' := ?_) #[true, true, true, true, true, true, true, true, false, false, false, false, false, false, false, false, false, false, false, false, false, false, false, false, false, false, false, false, false, false, false, false, false, false, false, false] rfl rfl (any_of HT_.out (by kernel_rfl)) (fun _ _ _ h => h) (Or.inl ⟨by rfl, ?_⟩) ?_ ?_
                  rotate_left
                  · intro w'
                    go_simp
                    with_reducible rfl
                  rotate_left
                  · exact AP_
                  refine pure_ (i := 8) (N := some 41) (v := ?_) (a' := ?_) #[true, true, true, true, true, true, true, true, true, false, false, false, false, false, false, false, false, false, false, false, false, false, false, false, false, false, false, false, false, false, false, false, false, false, false, false] rfl rfl (any_of HT_.out (by kernel_rfl)) (fun _ _ _ h => h) (Or.inl ⟨by rfl, ?_⟩) ?_ ?_
                  rotate_left
                  · intro w'
                    go_simp
                    with_reducible rfl
                  rotate_left
                  · exact AP_
                  refine pure_ (i := 9) (N := some 42) (v := ?_) (a' := ?_) #[true, true, true, true, true, true, true, true, true, true, false, false, false, false, false, false, false, false, false, false, false, false, false, false, false, false, false, false, false, false, false, false, false, false, false, false] rfl rfl (any_of HT_.out (by kernel_rfl)) (fun _ _ _ h => h) (Or.inl ⟨by rfl, ?_⟩) ?_ ?_
                  rotate_left
                  · intro w'
                    go_simp
                    with_reducible rfl
                  rotate_left
                  · exact AP_
                  refine pure_ (i := 10) (N := some 43) (v := ?_) (a' := ?_) #[true, true, true, true, true, true, true, true, true, true, true, false, false, false, false, false, false, false, false, false, false, false, false, false, false, false, false, false, false, false, false, false, false, false, false, false] rfl rfl (any_of HT_.out (by kernel_rfl)) (fun _ _ _ h => h) (Or.inl ⟨by rfl, ?_⟩) ?_ ?_
                  rotate_left
                  · intro w'
                    go_simp
                    with_reducible rfl
                  rotate_left
                  · exact AP_
                  refine pure_ (i := 11) (N := some 44) (v := ?_) (a' := ?_) #[true, true, true, true, true, true, true, true, true, true, true, true, false, false, false, false, false, false, false, false, false, false, false, false, false, false, false, false, false, false, false, false, false, false, false, false] rfl rfl (any_of HT_.out (by kernel_rfl)) (fun _ _ _ h => h) (Or.inl ⟨by rfl, ?_⟩) ?_ ?_
                  rotate_left
                  · intro w'
                    go_simp
                    with_reducible rfl
                  rotate_left
                  · exact AP_
                  refine take_ (i := 12) (N := some 45) (v := ?_) (a' := ?_) #[true, true, true, true, true, true, true, true, true, true, true, true, true, false, false, false, false, false, false, false, false, false, false, false, false, false, false, false, false, false, false, false, false, false, false, false] rfl rfl (take_ofW HT_.out HW_.out (by kernel_rfl)) (fun _ _ _ h => h) (Or.inl ⟨by rfl, ?_⟩) hHeld ?_ ?_
                  rotate_left
                  · rintro w' ⟨s0, s1, s2, s3, s4, s5, s6, s7⟩
                    go_simp
                    with_reducible rfl
                  rotate_left
                  · exact AP_
                  refine take_ (i := 13) (N := some 46) (v := ?_) (a' := ?_) #[true, true, true, true, true, true, true, true, true, true, true, true, true, true, false, false, false, false, false, false, false, false, false, false, false, false, false, false, false, false, false, false, false, false, false, false] rfl rfl (take_ofW HT_.out HW_.out (by kernel_rfl)) (fun _ _ _ h => h) (Or.inl ⟨by rfl, ?_⟩) hHeld ?_ ?_
                  rotate_left
                  · rintro w' ⟨s0, s1, s2, s3, s4, s5, s6, s7⟩
                    go_simp
                    with_reducible rfl
                  rotate_left
                  · exact AP_
                  refine one_ (i := 14) (N := some 47) #[true, true, true, true, true, true, true, true, true, true, true, true, true, true, true, false, false, false, false, false, false, false, false, false, false, false, false, false, false, false, false, false, false, false, false, false] rfl rfl (one_of HT_.out (by kernel_rfl)) (by decide) (fun K hK => ?_)
                  refine goes_ Tryd.func10 (by kernel_rfl) rfl #[.agg #[.int .i64 a0_0, .int .i64 a0_1]] (by rfl) rfl rfl MP_ ?_
                  with_reducible refine (warrantorref07_Plain.calls k a0_0 a0_1 t578 t579 _ A16.out).mono ?_
                  rintro e w43 ⟨rfl, hb⟩
                  refine ⟨_, rfl, ?_⟩
                  have n0_ := Aside0.mk (blk_below (g := gb561) (o := .cells #[.int .i64 a0_0, .int .i64 a0_1] 23 (0, 0)) (bk_ BK561.out) hb)
                  have n1_ := Aside0.mk (blk_below (g := gb567) (o := .cells #[.int .i64 t564, .int .i64 t565] 23 (0, 0)) (bk_ BK567.out) hb)
                  have n2_ := Aside0.mk (blk_below (g := gb571) (o := .cells #[.int .i64 t568, .int .i64 t569] 23 (0, 0)) (bk_ BK571.out) hb)
                  have n3_ := Aside0.mk (blk_below (g := gb575) (o := .cells #[.int .i64 t572, .int .i64 t573] 23 (0, 0)) (bk_ BK575.out) hb)
                  have n4_ := Aside0.mk (below_step HB_ hb)
                  clear BK561
                  clear BK567
                  clear BK571
                  clear BK575
                  clear HB
                  have BK561 := n0_
                  have BK567 := n1_
                  have BK571 := n2_
                  have BK575 := n3_
                  have HB := n4_
                  clear n0_ n1_ n2_ n3_ n4_
                  (try clear hb)
                  (try clear hb2)
                  (try clear hk)
                  (try clear hi)
                  refine hK.out _ _ ⟨(blk_cell BK561.out 0).trans rfl, (blk_cell BK561.out 1).trans rfl, (blk_cell BK567.out 0).trans rfl, (blk_cell BK567.out 1).trans rfl, (blk_cell BK571.out 0).trans rfl, (blk_cell BK571.out 1).trans rfl, (blk_cell BK575.out 0).trans rfl, (blk_cell BK575.out 1).trans rfl⟩ (fun hHeld => ?_)
                  clear hK K
                  refine norm_ (a' := ?_) ?_ ?_
                  rotate_left
                  · show Act.put _ (some 47) _ = _
                    simp only [Act.put, List.setIfInBounds_toArray, List.set_cons_zero, List.set_cons_succ, i64_w, i32_w]
                    rfl
                  refine pure_ (i := 15) (N := some 48) (v := ?_) (a' := ?_) #[true, true, true, true, true, true, true, true, true, true, true, true, true, true, true, true, false, false, false, false, false, false, false, false, false, false, false, false, false, false, false, false, false, false, false, false] rfl rfl (any_of HT_.out (by kernel_rfl)) (fun _ _ _ h => h) (Or.inl ⟨by rfl, ?_⟩) ?_ ?_
                  rotate_left
                  · intro w'
                    go_simp
                    with_reducible rfl
                  rotate_left
                  · exact AP_
                  refine pure_ (i := 16) (N := some 49) (v := ?_) (a' := ?_) #[true, true, true, true, true, true, true, true, true, true, true, true, true, true, true, true, true, false, false, false, false, false, false, false, false, false, false, false, false, false, false, false, false, false, false, false] rfl rfl (any_of HT_.out (by kernel_rfl)) (fun _ _ _ h => h) (Or.inl ⟨by rfl, ?_⟩) ?_ ?_
                  rotate_left
                  · intro w'
                    go_simp
                    with_reducible rfl
                  rotate_left
                  · exact AP_
                  refine pure_ (i := 17) (N := some 50) (v := ?_) (a' := ?_) #[true, true, true, true, true, true, true, true, true, true, true, true, true, true, true, true, true, true, false, false, false, false, false, false, false, false, false, false, false, false, false, false, false, false, false, false] rfl rfl (any_of HT_.out (by kernel_rfl)) (fun _ _ _ h => h) (Or.inl ⟨by rfl, ?_⟩) ?_ ?_
                  rotate_left
                  · intro w'
                    go_simp
                    with_reducible rfl
                  rotate_left
                  · exact AP_
                  refine take_ (i := 18) (N := some 51) (v := ?_) (a' := ?_) #[true, true, true, true, true, true, true, true, true, true, true, true, true, true, true, true, true, true, true, false, false, false, false, false, false, false, false, false, false, false, false, false, false, false, false, false] rfl rfl (take_ofW HT_.out HW_.out (by kernel_rfl)) (fun _ _ _ h => h) (Or.inl ⟨by rfl, ?_⟩) hHeld ?_ ?_
                  rotate_left
                  · rintro w' ⟨s0, s1, s2, s3, s4, s5, s6, s7⟩
                    go_simp
                    with_reducible rfl
                  rotate_left
                  · exact AP_
                  refine take_ (i := 19) (N := some 52) (v := ?_) (a' := ?_) #[true, true, true, true, true, true, true, true, true, true, true, true, true, true, true, true, true, true, true, true, false, false, false, false, false, false, false, false, false, false, false, false, false, false, false, false] rfl rfl (take_ofW HT_.out HW_.out (by kernel_rfl)) (fun _ _ _ h => h) (Or.inl ⟨by rfl, ?_⟩) hHeld ?_ ?_
                  rotate_left
                  · rintro w' ⟨s0, s1, s2, s3, s4, s5, s6, s7⟩
                    go_simp
                    with_reducible rfl
                  rotate_left
                  · exact AP_
                  refine pure_ (i := 20) (N := some 53) (v := ?_) (a' := ?_) #[true, true, true, true, true, true, true, true, true, true, true, true, true, true, true, true, true, true, true, true, true, false, false, false, false, false, false, false, false, false, false, false, false, false, false, false] rfl rfl (any_of HT_.out (by kernel_rfl)) (fun _ _ _ h => h) (Or.inl ⟨by rfl, ?_⟩) ?_ ?_
                  rotate_left
                  · intro w'
                    go_simp
                    with_reducible rfl
                  rotate_left
                  · exact AP_
                  refine pure_ (i := 21) (N := some 54) (v := ?_) (a' := ?_) #[true, true, true, true, true, true, true, true, true, true, true, true, true, true, true, true, true, true, true, true, true, true, false, false, false, false, false, false, false, false, false, false, false, false, false, false] rfl rfl (any_of HT_.out (by kernel_rfl)) (fun _ _ _ h => h) (Or.inl ⟨by rfl, ?_⟩) ?_ ?_
                  rotate_left
                  · intro w'
                    go_simp
                    with_reducible rfl
                  rotate_left
                  · exact AP_
                  refine pure_ (i := 22) (N := some 55) (v := ?_) (a' := ?_) #[true, true, true, true, true, true, true, true, true, true, true, true, true, true, true, true, true, true, true, true, true, true, true, false, false, false, false, false, false, false, false, false, false, false, false, false] rfl rfl (any_of HT_.out (by kernel_rfl)) (fun _ _ _ h => h) (Or.inl ⟨by rfl, ?_⟩) ?_ ?_
                  rotate_left
                  · intro w'
                    go_simp
                    with_reducible rfl
                  rotate_left
                  · exact AP_
                  refine pure_ (i := 23) (N := some 56) (v := ?_) (a' := ?_) #[true, true, true, true, true, true, true, true, true, true, true, true, true, true, true, true, true, true, true, true, true, true, true, true, false, false, false, false, false, false, false, false, false, false, false, false] rfl rfl (any_of HT_.out (by kernel_rfl)) (fun _ _ _ h => h) (Or.inl ⟨by rfl, ?_⟩) ?_ ?_
                  rotate_left
                  · intro w'
                    go_simp
                    with_reducible rfl
                  rotate_left
                  · exact AP_
                  refine pure_ (i := 24) (N := some 57) (v := ?_) (a' := ?_) #[true, true, true, true, true, true, true, true, true, true, true, true, true, true, true, true, true, true, true, true, true, true, true, true, true, false, false, false, false, false, false, false, false, false, false, false] rfl rfl (any_of HT_.out (by kernel_rfl)) (fun _ _ _ h => h) (Or.inl ⟨by rfl, ?_⟩) ?_ ?_
                  rotate_left
                  · intro w'
                    go_simp
                    with_reducible rfl
                  rotate_left
                  · exact AP_
                  refine pure_ (i := 25) (N := some 58) (v := ?_) (a' := ?_) #[true, true, true, true, true, true, true, true, true, true, true, true, true, true, true, true, true, true, true, true, true, true, true, true, true, true, false, false, false, false, false, false, false, false, false, false] rfl rfl (any_of HT_.out (by kernel_rfl)) (fun _ _ _ h => h) (Or.inl ⟨by rfl, ?_⟩) ?_ ?_
                  rotate_left
                  · intro w'
                    go_simp
                    with_reducible rfl
                  rotate_left
                  · exact AP_
                  refine pure_ (i := 26) (N := some 59) (v := ?_) (a' := ?_) #[true, true, true, true, true, true, true, true, true, true, true, true, true, true, true, true, true, true, true, true, true, true, true, true, true, true, true, false, false, false, false, false, false, false, false, false] rfl rfl (any_of HT_.out (by kernel_rfl)) (fun _ _ _ h => h) (Or.inl ⟨by rfl, ?_⟩) ?_ ?_
                  rotate_left
                  · intro w'
                    go_simp
                    with_reducible rfl
                  rotate_left
                  · exact AP_
                  refine pure_ (i := 27) (N := some 60) (v := ?_) (a' := ?_) #[true, true, true, true, true, true, true, true, true, true, true, true, true, true, true, true, true, true, true, true, true, true, true, true, true, true, true, true, false, false, false, false, false, false, false, false] rfl rfl (any_of HT_.out (by kernel_rfl)) (fun _ _ _ h => h) (Or.inl ⟨by rfl, ?_⟩) ?_ ?_
                  rotate_left
                  · intro w'
                    go_simp
                    with_reducible rfl
                  rotate_left
                  · exact AP_
                  refine pure_ (i := 28) (N := some 61) (v := ?_) (a' := ?_) #[true, true, true, true, true, true, true, true, true, true, true, true, true, true, true, true, true, true, true, true, true, true, true, true, true, true, true, true, true, false, false, false, false, false, false, false] rfl rfl (any_of HT_.out (by kernel_rfl)) (fun _ _ _ h => h) (Or.inl ⟨by rfl, ?_⟩) ?_ ?_
                  rotate_left
                  · intro w'
                    go_simp
                    with_reducible rfl
                  rotate_left
                  · exact AP_
                  refine pure_ (i := 29) (N := some 62) (v := ?_) (a' := ?_) #[true, true, true, true, true, true, true, true, true, true, true, true, true, true, true, true, true, true, true, true, true, true, true, true, true, true, true, true, true, true, false, false, false, false, false, false] rfl rfl (any_of HT_.out (by kernel_rfl)) (fun _ _ _ h => h) (Or.inl ⟨by rfl, ?_⟩) ?_ ?_
                  rotate_left
                  · intro w'
                    go_simp
                    with_reducible rfl
                  rotate_left
                  · exact AP_
                  refine pure_ (i := 30) (N := some 63) (v := ?_) (a' := ?_) #[true, true, true, true, true, true, true, true, true, true, true, true, true, true, true, true, true, true, true, true, true, true, true, true, true, true, true, true, true, true, true, false, false, false, false, false] rfl rfl (any_of HT_.out (by kernel_rfl)) (fun _ _ _ h => h) (Or.inl ⟨by rfl, ?_⟩) ?_ ?_
                  rotate_left
                  · intro w'
                    go_simp
                    with_reducible rfl
                  rotate_left
                  · exact AP_
                  refine pure_ (i := 31) (N := some 64) (v := undef) (a' := ?_) #[true, true, true, true, true, true, true, true, true, true, true, true, true, true, true, true, true, true, true, true, true, true, true, true, true, true, true, true, true, true, true, true, false, false, false, false] rfl rfl (any_of HT_.out (by kernel_rfl)) (fun _ _ _ h => h) (Or.inr ⟨by rfl, rfl⟩) ?_ ?_
                  rotate_left
                  · exact AP_
                  refine pure_ (i := 32) (N := some 65) (v := undef) (a' := ?_) #[true, true, true, true, true, true, true, true, true, true, true, true, true, true, true, true, true, true, true, true, true, true, true, true, true, true, true, true, true, true, true, true, true, false, false, false] rfl rfl (any_of HT_.out (by kernel_rfl)) (fun _ _ _ h => h) (Or.inr ⟨by rfl, rfl⟩) ?_ ?_
                  rotate_left
                  · exact AP_
                  refine pure_ (i := 33) (N := some 66) (v := ?_) (a' := ?_) #[true, true, true, true, true, true, true, true, true, true, true, true, true, true, true, true, true, true, true, true, true, true, true, true, true, true, true, true, true, true, true, true, true, true, false, false] rfl rfl (any_of HT_.out (by kernel_rfl)) (fun _ _ _ h => h) (Or.inl ⟨by rfl, ?_⟩) ?_ ?_
                  rotate_left
                  · intro w'
                    go_simp
                    with_reducible rfl
                  rotate_left
                  · exact AP_
                  refine pure_ (i := 34) (N := some 67) (v := ?_) (a' := ?_) #[true, true, true, true, true, true, true, true, true, true, true, true, true, true, true, true, true, true, true, true, true, true, true, true, true, true, true, true, true, true, true, true, true, true, true, false] rfl rfl (any_of HT_.out (by kernel_rfl)) (fun _ _ _ h => h) (Or.inl ⟨by rfl, ?_⟩) ?_ ?_
                  rotate_left
                  · intro w'
                    go_simp
                    with_reducible rfl
                  rotate_left
                  · exact AP_
                  refine pure_ (i := 35) (N := some 4) (v := ?_) (a' := ?_) #[true, true, true, true, true, true, true, true, true, true, true, true, true, true, true, true, true, true, true, true, true, true, true, true, true, true, true, true, true, true, true, true, true, true, true, true] rfl rfl (any_of HT_.out (by kernel_rfl)) (fun _ _ _ h => h) (Or.inl ⟨by rfl, ?_⟩) ?_ ?_
                  rotate_left
                  · intro w'
                    go_simp
                    with_reducible rfl
                  rotate_left
                  · exact AP_
                  refine done_ (done_of HT_.out (by kernel_rfl)) ?_
                  try go_wp2
                  go_ret
                  exact ⟨by first | rfl | (simp [errW_none, errW_some] <;> rfl) | (simp [*, errW_none, errW_some] <;> rfl), by repeat (first | (with_reducible first | exact HB.out | apply below_alloc | apply pw_below_drewN | apply below_drew1 | refine below_set ?_ GE561.out | refine below_set ?_ GE567.out | refine below_set ?_ GE571.out | refine below_set ?_ GE575.out) | exact HB.out)⟩
                · replace c20 := Bool.eq_false_iff.mpr c20
                  subst c20
                  have H1 : (some (t570 == 70)) = some r := by rw [if_neg (show ¬ (false = true) by decide)] at H; exact H
                  clear H
                  have H := H1
                  clear H1
                  obtain rfl := Option.some.inj H
                  go_enter Tryd.func7, Tryd.ntmps7
                  try go_wp2_with (first | ((with_reducible refine gate_dst (N := 2) rfl ?_); refine box_event ?hg (N := 2) ?hd (cs := #[.int .i64 a0_0, .int .i64 a0_1]) (t := 23) ?hr ?_; (case hd => rfl); (case hg => rfl); (case hr => first | (go_simp; done) | (go_simp; rfl)); intro gb561 hg w44 hbox hb; have n0_ := Aside0.mk (below_step HB_ hb); have n1_ := Aside0.mk (hbox); have n2_ := Aside0.mk ((by rw [hg]; exact (below_size HB_) : w.heap.size ≤ gb561)); have n3_ := Aside0.mk ((by rw [hg]; exact (below_size HB_) : w.heap.size ≤ gb561)); clear HB; have HB := n0_; have BK561 := n1_; have GW561 := n2_; have GE561 := n3_; clear n0_ n1_ n2_ n3_; clear hb hbox hg; have hcz45_0 : w44.cell? ⟨gb561, 0, none⟩ = some (.int .i64 a0_0) := (blk_cell BK561.out 0).trans rfl; have hcz45_1 : w44.cell? ⟨gb561, 1, none⟩ = some (.int .i64 a0_1) := (blk_cell BK561.out 1).trans rfl; have hfz45_0 := blk_frozen BK561.out 0; have hfz45_1 := blk_frozen BK561.out 1) | ((with_reducible refine gate_callee (f := 34) rfl ?_); refine goesL_ (some 17) rfl rfl Tryd.func34 (by kernel_rfl) rfl #[.agg #[.int .i64 a0_0, .int .i64 a0_1]] rfl MP_ ?_; (with_reducible refine (itv_Show.calls a0_0 a0_1 t563 _ (tb_below HTB.out HB_) A7.out).mono ?_); rintro e w46 ⟨rfl, hb⟩; refine ⟨_, rfl, ?_⟩; have n0_ := Aside0.mk (blk_below (g := gb561) (o := .cells #[.int .i64 a0_0, .int .i64 a0_1] 23 (0, 0)) (bk_ BK561.out) hb); have n1_ := Aside0.mk (below_step HB_ hb); clear BK561; clear HB; have BK561 := n0_; have HB := n1_; clear n0_ n1_; (try clear hb); (try clear hb2); (try clear hk); (try clear hi)) | ((with_reducible refine gate_callee (f := 35) rfl ?_); refine goesL_ (some 20) rfl rfl Tryd.func35 (by kernel_rfl) rfl #[.string t563] rfl MP_ ?_; (with_reducible refine (itv_Parse.calls t563 t564 t565 t566 _ (tb_below HTB.out HB_) A8.out).mono ?_); rintro e w47 ⟨rfl, hb⟩; refine ⟨_, rfl, ?_⟩; have n0_ := Aside0.mk (blk_below (g := gb561) (o := .cells #[.int .i64 a0_0, .int .i64 a0_1] 23 (0, 0)) (bk_ BK561.out) hb); have n1_ := Aside0.mk (below_step HB_ hb); clear BK561; clear HB; have BK561 := n0_; have HB := n1_; clear n0_ n1_; (try clear hb); (try clear hb2); (try clear hk); (try clear hi)) | ((with_reducible refine gate_dst (N := 6) rfl ?_); refine box_event ?hg (N := 6) ?hd (cs := #[.int .i64 0, .int .i64 0]) (t := 23) ?hr ?_; (case hd => rfl); (case hg => rfl); (case hr => first | (go_simp; done) | (go_simp; rfl)); intro gb567 hg w48 hbox hb; have n0_ := Aside0.mk (blk_below (g := gb561) (o := .cells #[.int .i64 a0_0, .int .i64 a0_1] 23 (0, 0)) (bk_ BK561.out) hb); have n1_ := Aside0.mk (below_step HB_ hb); have n2_ := Aside0.mk (hbox); have n3_ := Aside0.mk ((by rw [hg]; exact (below_size HB_) : w.heap.size ≤ gb567)); have n4_ := Aside0.mk ((by rw [hg]; exact (below_size HB_) : w.heap.size ≤ gb567)); have n5_ := Aside0.mk ((by rw [hg]; exact Nat.ne_of_lt (blk_lt (g := gb561) (o := .cells #[.int .i64 a0_0, .int .i64 a0_1] 23 (0, 0)) (bk_ BK561.out)) : gb561 ≠ gb567)); have n6_ := Aside0.mk ((by rw [hg]; exact Nat.ne_of_gt (blk_lt (g := gb561) (o := .cells #[.int .i64 a0_0, .int .i64 a0_1] 23 (0, 0)) (bk_ BK561.out)) : gb567 ≠ gb561)); clear BK561; clear HB; have BK561 := n0_; have HB := n1_; have BK567 := n2_; have GW567 := n3_; have GE567 := n4_; have NB561_567 := n5_; have NB567_561 := n6_; clear n0_ n1_ n2_ n3_ n4_ n5_ n6_; clear hb hbox hg; have hnb49 := NB567_561.out; have hnc49 := NB561_567.out; have hcz50_0 : w48.cell? ⟨gb567, 0, none⟩ = some (.int .i64 0) := (blk_cell BK567.out 0).trans rfl; have hcz50_1 : w48.cell? ⟨gb567, 1, none⟩ = some (.int .i64 0) := (blk_cell BK567.out 1).trans rfl; have hfz50_0 := blk_frozen BK567.out 0; have hfz50_1 := blk_frozen BK567.out 1) | ((with_reducible refine gate_callee (f := 35) rfl ?_); refine goesL_ (some 25) rfl rfl Tryd.func35 (by kernel_rfl) rfl #[.string a1] rfl MP_ ?_; (with_reducible refine (itv_Parse.calls a1 t568 t569 t570 _ (tb_below HTB.out HB_) A9.out).mono ?_); rintro e w51 ⟨rfl, hb⟩; refine ⟨_, rfl, ?_⟩; have n0_ := Aside0.mk (blk_below (g := gb561) (o := .cells #[.int .i64 a0_0, .int .i64 a0_1] 23 (0, 0)) (bk2_ BK561.out) hb); have n1_ := Aside0.mk (blk_below (g := gb567) (o := .cells #[.int .i64 t564, .int .i64 t565] 23 (0, 0)) (bk2_ BK567.out) hb); have n2_ := Aside0.mk (below_step HB_ hb); clear BK561; clear BK567; clear HB; have BK561 := n0_; have BK567 := n1_; have HB := n2_; clear n0_ n1_ n2_; (try clear hb); (try clear hb2); (try clear hk); (try clear hi)) | ((with_reducible refine gate_dst (N := 8) rfl ?_); refine box_event ?hg (N := 8) ?hd (cs := #[.int .i64 0, .int .i64 0]) (t := 23) ?hr ?_; (case hd => rfl); (case hg => rfl); (case hr => first | (go_simp; done) | (go_simp; rfl)); intro gb571 hg w52 hbox hb; have n0_ := Aside0.mk (blk_below (g := gb561) (o := .cells #[.int .i64 a0_0, .int .i64 a0_1] 23 (0, 0)) (bk_ BK561.out) hb); have n1_ := Aside0.mk (blk_below (g := gb567) (o := .cells #[.int .i64 t564, .int .i64 t565] 23 (0, 0)) (bk_ BK567.out) hb); have n2_ := Aside0.mk (below_step HB_ hb); have n3_ := Aside0.mk (hbox); have n4_ := Aside0.mk ((by rw [hg]; exact (below_size HB_) : w.heap.size ≤ gb571)); have n5_ := Aside0.mk ((by rw [hg]; exact (below_size HB_) : w.heap.size ≤ gb571)); have n6_ := Aside0.mk ((by rw [hg]; exact Nat.ne_of_lt (blk_lt (g := gb561) (o := .cells #[.int .i64 a0_0, .int .i64 a0_1] 23 (0, 0)) (bk_ BK561.out)) : gb561 ≠ gb571)); have n7_ := Aside0.mk ((by rw [hg]; exact Nat.ne_of_gt (blk_lt (g := gb561) (o := .cells #[.int .i64 a0_0, .int .i64 a0_1] 23 (0, 0)) (bk_ BK561.out)) : gb571 ≠ gb561)); have n8_ := Aside0.mk ((by rw [hg]; exact Nat.ne_of_lt (blk_lt (g := gb567) (o := .cells #[.int .i64 t564, .int .i64 t565] 23 (0, 0)) (bk_ BK567.out)) : gb567 ≠ gb571)); have n9_ := Aside0.mk ((by rw [hg]; exact Nat.ne_of_gt (blk_lt (g := gb567) (o := .cells #[.int .i64 t564, .int .i64 t565] 23 (0, 0)) (bk_ BK567.out)) : gb571 ≠ gb567)); clear BK561; clear BK567; clear HB; have BK561 := n0_; have BK567 := n1_; have HB := n2_; have BK571 := n3_; have GW571 := n4_; have GE571 := n5_; have NB561_571 := n6_; have NB571_561 := n7_; have NB567_571 := n8_; have NB571_567 := n9_; clear n0_ n1_ n2_ n3_ n4_ n5_ n6_ n7_ n8_ n9_; clear hb hbox hg; have hnb53 := NB571_561.out; have hnc53 := NB561_571.out; have hnb54 := NB571_567.out; have hnc54 := NB567_571.out; have hcz55_0 : w52.cell? ⟨gb571, 0, none⟩ = some (.int .i64 0) := (blk_cell BK571.out 0).trans rfl; have hcz55_1 : w52.cell? ⟨gb571, 1, none⟩ = some (.int .i64 0) := (blk_cell BK571.out 1).trans rfl; have hfz55_0 := blk_frozen BK571.out 0; have hfz55_1 := blk_frozen BK571.out 1) | ((with_reducible refine gate_callee (f := 36) rfl ?_); refine goesL_ (some 30) rfl rfl Tryd.func36 (by kernel_rfl) rfl #[.string a1] rfl MP_ ?_; (with_reducible refine (warrantorref07_Parse.calls k a1 t572 t573 false _ A10.out).mono ?_); rintro e w56 ⟨rfl, hb⟩; refine ⟨_, rfl, ?_⟩; have n0_ := Aside0.mk (blk_below (g := gb561) (o := .cells #[.int .i64 a0_0, .int .i64 a0_1] 23 (0, 0)) (bk2_ BK561.out) hb); have n1_ := Aside0.mk (blk_below (g := gb567) (o := .cells #[.int .i64 t564, .int .i64 t565] 23 (0, 0)) (bk2_ BK567.out) hb); have n2_ := Aside0.mk (blk_below (g := gb571) (o := .cells #[.int .i64 t568, .int .i64 t569] 23 (0, 0)) (bk2_ BK571.out) hb); have n3_ := Aside0.mk (below_step HB_ hb); clear BK561; clear BK567; clear BK571; clear HB; have BK561 := n0_; have BK567 := n1_; have BK571 := n2_; have HB := n3_; clear n0_ n1_ n2_ n3_; (try clear hb); (try clear hb2); (try clear hk); (try clear hi)) | ((with_reducible refine gate_dst (N := 10) rfl ?_); refine box_event ?hg (N := 10) ?hd (cs := #[.int .i64 0, .int .i64 0]) (t := 23) ?hr ?_; (case hd => rfl); (case hg => rfl); (case hr => first | (go_simp; done) | (go_simp; rfl)); intro gb575 hg w57 hbox hb; have n0_ := Aside0.mk (blk_below (g := gb561) (o := .cells #[.int .i64 a0_0, .int .i64 a0_1] 23 (0, 0)) (bk_ BK561.out) hb); have n1_ := Aside0.mk (blk_below (g := gb567) (o := .cells #[.int .i64 t564, .int .i64 t565] 23 (0, 0)) (bk_ BK567.out) hb); have n2_ := Aside0.mk (blk_below (g := gb571) (o := .cells #[.int .i64 t568, .int .i64 t569] 23 (0, 0)) (bk_ BK571.out) hb); have n3_ := Aside0.mk (below_step HB_ hb); have n4_ := Aside0.mk (hbox); have n5_ := Aside0.mk ((by rw [hg]; exact (below_size HB_) : w.heap.size ≤ gb575)); have n6_ := Aside0.mk ((by rw [hg]; exact (below_size HB_) : w.heap.size ≤ gb575)); have n7_ := Aside0.mk ((by rw [hg]; exact Nat.ne_of_lt (blk_lt (g := gb561) (o := .cells #[.int .i64 a0_0, .int .i64 a0_1] 23 (0, 0)) (bk_ BK561.out)) : gb561 ≠ gb575)); have n8_ := Aside0.mk ((by rw [hg]; exact Nat.ne_of_gt (blk_lt (g := gb561) (o := .cells #[.int .i64 a0_0, .int .i64 a0_1] 23 (0, 0)) (bk_ BK561.out)) : gb575 ≠ gb561)); have n9_ := Aside0.mk ((by rw [hg]; exact Nat.ne_of_lt (blk_lt (g := gb567) (o := .cells #[.int .i64 t564, .int .i64 t565] 23 (0, 0)) (bk_ BK567.out)) : gb567 ≠ gb575)); have n10_ := Aside0.mk ((by rw [hg]; exact Nat.ne_of_gt (blk_lt (g := gb567) (o := .cells #[.int .i64 t564, .int .i64 t565] 23 (0, 0)) (bk_ BK567.out)) : gb575 ≠ gb567)); have n11_ := Aside0.mk ((by rw [hg]; exact Nat.ne_of_lt (blk_lt (g := gb571) (o := .cells #[.int .i64 t568, .int .i64 t569] 23 (0, 0)) (bk_ BK571.out)) : gb571 ≠ gb575)); have n12_ := Aside0.mk ((by rw [hg]; exact Nat.ne_of_gt (blk_lt (g := gb571) (o := .cells #[.int .i64 t568, .int .i64 t569] 23 (0, 0)) (bk_ BK571.out)) : gb575 ≠ gb571)); clear BK561; clear BK567; clear BK571; clear HB; have BK561 := n0_; have BK567 := n1_; have BK571 := n2_; have HB := n3_; have BK575 := n4_; have GW575 := n5_; have GE575 := n6_; have NB561_575 := n7_; have NB575_561 := n8_; have NB567_575 := n9_; have NB575_567 := n10_; have NB571_575 := n11_; have NB575_571 := n12_; clear n0_ n1_ n2_ n3_ n4_ n5_ n6_ n7_ n8_ n9_ n10_ n11_ n12_; clear hb hbox hg; have hnb58 := NB575_561.out; have hnc58 := NB561_575.out; have hnb59 := NB575_567.out; have hnc59 := NB567_575.out; have hnb60 := NB575_571.out; have hnc60 := NB571_575.out; have hcz61_0 : w57.cell? ⟨gb575, 0, none⟩ = some (.int .i64 0) := (blk_cell BK575.out 0).trans rfl; have hcz61_1 : w57.cell? ⟨gb575, 1, none⟩ = some (.int .i64 0) := (blk_cell BK575.out 1).trans rfl; have hfz61_0 := blk_frozen BK575.out 0; have hfz61_1 := blk_frozen BK575.out 1))
                  have n0_ : Aside0 (((w57.setCell ⟨gb575, 0, none⟩ (.int .i64 t572)).setCell ⟨gb575, 1, none⟩ (.int .i64 t573)).heap[gb561]? = some (.cells #[.int .i64 a0_0, .int .i64 a0_1] 23 (0, 0))) := ⟨by (with_reducible repeat (first | refine blk_drewN ?_ _ | refine blk_drew ?_ | refine blk_alloc ?_ _)); refine blk_far ?_ NB561_575.out _; (with_reducible repeat (first | refine blk_drewN ?_ _ | refine blk_drew ?_ | refine blk_alloc ?_ _)); refine blk_far ?_ NB561_575.out _; (with_reducible repeat (first | refine blk_drewN ?_ _ | refine blk_drew ?_ | refine blk_alloc ?_ _)); exact BK561.out⟩
                  have n1_ : Aside0 (((w57.setCell ⟨gb575, 0, none⟩ (.int .i64 t572)).setCell ⟨gb575, 1, none⟩ (.int .i64 t573)).heap[gb567]? = some (.cells #[.int .i64 t564, .int .i64 t565] 23 (0, 0))) := ⟨by (with_reducible repeat (first | refine blk_drewN ?_ _ | refine blk_drew ?_ | refine blk_alloc ?_ _)); refine blk_far ?_ NB567_575.out _; (with_reducible repeat (first | refine blk_drewN ?_ _ | refine blk_drew ?_ | refine blk_alloc ?_ _)); refine blk_far ?_ NB567_575.out _; (with_reducible repeat (first | refine blk_drewN ?_ _ | refine blk_drew ?_ | refine blk_alloc ?_ _)); exact BK567.out⟩
                  have n2_ : Aside0 (((w57.setCell ⟨gb575, 0, none⟩ (.int .i64 t572)).setCell ⟨gb575, 1, none⟩ (.int .i64 t573)).heap[gb571]? = some (.cells #[.int .i64 t568, .int .i64 t569] 23 (0, 0))) := ⟨by (with_reducible repeat (first | refine blk_drewN ?_ _ | refine blk_drew ?_ | refine blk_alloc ?_ _)); refine blk_far ?_ NB571_575.out _; (with_reducible repeat (first | refine blk_drewN ?_ _ | refine blk_drew ?_ | refine blk_alloc ?_ _)); refine blk_far ?_ NB571_575.out _; (with_reducible repeat (first | refine blk_drewN ?_ _ | refine blk_drew ?_ | refine blk_alloc ?_ _)); exact BK571.out⟩
                  have n3_ : Aside0 (((w57.setCell ⟨gb575, 0, none⟩ (.int .i64 t572)).setCell ⟨gb575, 1, none⟩ (.int .i64 t573)).heap[gb575]? = some (.cells #[.int .i64 t572, .int .i64 t573] 23 (0, 0))) := ⟨by (with_reducible repeat (first | refine blk_drewN ?_ _ | refine blk_drew ?_ | refine blk_alloc ?_ _)); refine blk_put (cs := #[.int .i64 t572, .int .i64 0]) ?_ 1 _ rfl; (with_reducible repeat (first | refine blk_drewN ?_ _ | refine blk_drew ?_ | refine blk_alloc ?_ _)); refine blk_put (cs := #[.int .i64 0, .int .i64 0]) ?_ 0 _ rfl; (with_reducible repeat (first | refine blk_drewN ?_ _ | refine blk_drew ?_ | refine blk_alloc ?_ _)); exact BK575.out⟩
                  have n4_ : Aside0 (Below w.heap.size w ((w57.setCell ⟨gb575, 0, none⟩ (.int .i64 t572)).setCell ⟨gb575, 1, none⟩ (.int .i64 t573))) := ⟨by repeat (first | (with_reducible first | exact HB.out | apply below_alloc | apply pw_below_drewN | apply below_drew1 | refine below_set ?_ GE561.out | refine below_set ?_ GE567.out | refine below_set ?_ GE571.out | refine below_set ?_ GE575.out) | exact HB.out)⟩
                  (try clear BK561)
                  (try clear BK567)
                  (try clear BK571)
                  (try clear BK575)
                  (try clear HB)
                  generalize ((w57.setCell ⟨gb575, 0, none⟩ (.int .i64 t572)).setCell ⟨gb575, 1, none⟩ (.int .i64 t573)) = w62 at n0_ n1_ n2_ n3_ n4_ ⊢
                  have BK561 := n0_
                  have BK567 := n1_
                  have BK571 := n2_
                  have BK575 := n3_
                  have HB := n4_
                  clear n0_ n1_ n2_ n3_ n4_
                  first | (obtain ⟨w62, hq_⟩ : ∃ x, x = w62.drewN nd := ⟨_, rfl⟩; rw [← hq_]; have q0_ := Aside0.mk (blk_drewN BK561.out nd); rw [← hq_] at q0_; have q1_ := Aside0.mk (blk_drewN BK567.out nd); rw [← hq_] at q1_; have q2_ := Aside0.mk (blk_drewN BK571.out nd); rw [← hq_] at q2_; have q3_ := Aside0.mk (blk_drewN BK575.out nd); rw [← hq_] at q3_; have q4_ := Aside0.mk (pw_below_drewN HB.out nd); rw [← hq_] at q4_; clear BK561; clear BK567; clear BK571; clear BK575; clear HB; have BK561 := q0_; have BK567 := q1_; have BK571 := q2_; have BK575 := q3_; have HB := q4_; clear hq_ q0_ q1_ q2_ q3_ q4_) | skip
                  have n0_ := Aside0.mk (blk_drew BK561.out)
                  have n1_ := Aside0.mk (blk_drew BK567.out)
                  have n2_ := Aside0.mk (blk_drew BK571.out)
                  have n3_ := Aside0.mk (blk_drew BK575.out)
                  have n4_ := Aside0.mk (below_drew1 HB.out)
                  clear BK561
                  clear BK567
                  clear BK571
                  clear BK575
                  clear HB
                  have BK561 := n0_
                  have BK567 := n1_
                  have BK571 := n2_
                  have BK575 := n3_
                  have HB := n4_
                  clear n0_ n1_ n2_ n3_ n4_
                  refine start_ (n := 36) (S := fun w' => w'.cell? ⟨gb561, 0, none⟩ = some (.int .i64 a0_0) ∧ w'.cell? ⟨gb561, 1, none⟩ = some (.int .i64 a0_1) ∧ w'.cell? ⟨gb567, 0, none⟩ = some (.int .i64 t564) ∧ w'.cell? ⟨gb567, 1, none⟩ = some (.int .i64 t565) ∧ w'.cell? ⟨gb571, 0, none⟩ = some (.int .i64 t568) ∧ w'.cell? ⟨gb571, 1, none⟩ = some (.int .i64 t569) ∧ w'.cell? ⟨gb575, 0, none⟩ = some (.int .i64 t572) ∧ w'.cell? ⟨gb575, 1, none⟩ = some (.int .i64 t573)) (ds := []) #[false, false, false, false, false, false, false, false, false, false, false, false, false, false, false, false, false, false, false, false, false, false, false, false, false, false, false, false, false, false, false, false, false, false, false, false] (by kernel_rfl) rfl rfl ⟨(blk_cell BK561.out 0).trans rfl, (blk_cell BK561.out 1).trans rfl, (blk_cell BK567.out 0).trans rfl, (blk_cell BK567.out 1).trans rfl, (blk_cell BK571.out 0).trans rfl, (blk_cell BK571.out 1).trans rfl, (blk_cell BK575.out 0).trans rfl, (blk_cell BK575.out 1).trans rfl⟩ (fun hHeld => ?_); refine with_tabW warrantorlaw07_ItvTexts.tab7 warrantorlaw07_ItvTexts.bits7 (fun HT_ HW_ => ?_)
                  generalize w62.drew = w63 at BK561 BK567 BK571 BK575 HB hHeld ⊢
                  refine one_ (i := 0) (N := some 33) #[true, false, false, false, false, false, false, false, false, false, false, false, false, false, false, false, false, false, false, false, false, false, false, false, false, false, false, false, false, false, false, false, false, false, false, false] rfl rfl (one_of HT_.out (by kernel_rfl)) (by decide) (fun K hK => ?_)
                  refine goes_ Tryd.func8 (by kernel_rfl) rfl #[] (by rfl) rfl rfl MP_ ?_
                  with_reducible refine (warrantorlaw07_lives.calls k  true _ (tb_below HTB.out HB_) A11.out).mono ?_
                  rintro e w64 ⟨rfl, hb⟩
                  refine ⟨_, rfl, ?_⟩
                  have n0_ := Aside0.mk (blk_below (g := gb561) (o := .cells #[.int .i64 a0_0, .int .i64 a0_1] 23 (0, 0)) (bk_ BK561.out) hb)
                  have n1_ := Aside0.mk (blk_below (g := gb567) (o := .cells #[.int .i64 t564, .int .i64 t565] 23 (0, 0)) (bk_ BK567.out) hb)
                  have n2_ := Aside0.mk (blk_below (g := gb571) (o := .cells #[.int .i64 t568, .int .i64 t569] 23 (0, 0)) (bk_ BK571.out) hb)
                  have n3_ := Aside0.mk (blk_below (g := gb575) (o := .cells #[.int .i64 t572, .int .i64 t573] 23 (0, 0)) (bk_ BK575.out) hb)
                  have n4_ := Aside0.mk (below_step HB_ hb)
                  clear BK561
                  clear BK567
                  clear BK571
                  clear BK575
                  clear HB
                  have BK561 := n0_
                  have BK567 := n1_
                  have BK571 := n2_
                  have BK575 := n3_
                  have HB := n4_
                  clear n0_ n1_ n2_ n3_ n4_
                  (try clear hb)
                  (try clear hb2)
                  (try clear hk)
                  (try clear hi)
                  refine hK.out _ _ ⟨(blk_cell BK561.out 0).trans rfl, (blk_cell BK561.out 1).trans rfl, (blk_cell BK567.out 0).trans rfl, (blk_cell BK567.out 1).trans rfl, (blk_cell BK571.out 0).trans rfl, (blk_cell BK571.out 1).trans rfl, (blk_cell BK575.out 0).trans rfl, (blk_cell BK575.out 1).trans rfl⟩ (fun hHeld => ?_)
                  clear hK K
                  refine norm_ (a' := ?_) ?_ ?_
                  rotate_left
                  · show Act.put _ (some 33) _ = _
                    simp only [Act.put, List.setIfInBounds_toArray, List.set_cons_zero, List.set_cons_succ, i64_w, i32_w]
                    rfl
                  refine pure_ (i := 1) (N := some 34) (v := ?_) (a' := ?_) #[true, true, false, false, false, false, false, false, false, false, false, false, false, false, false, false, false, false, false, false, false, false, false, false, false, false, false, false, false, false, false, false, false, false, false, false] rfl rfl (any_of HT_.out (by kernel_rfl)) (fun _ _ _ h => h) (Or.inl ⟨by rfl, ?_⟩) ?_ ?_
                  rotate_left
                  · intro w'
                    go_simp
                    with_reducible rfl
                  rotate_left
                  · exact AP_
                  refine pure_ (i := 2) (N := some 35) (v := ?_) (a' := ?_) #[true, true, true, false, false, false, false, false, false, false, false, false, false, false, false, false, false, false, false, false, false, false, false, false, false, false, false, false, false, false, false, false, false, false, false, false] rfl rfl (any_of HT_.out (by kernel_rfl)) (fun _ _ _ h => h) (Or.inl ⟨by rfl, ?_⟩) ?_ ?_
                  rotate_left
                  · intro w'
                    go_simp
                    with_reducible rfl
                  rotate_left
                  · exact AP_
                  refine take_ (i := 3) (N := some 36) (v := ?_) (a' := ?_) #[true, true, true, true, false, false, false, false, false, false, false, false, false, false, false, false, false, false, false, false, false, false, false, false, false, false, false, false, false, false, false, false, false, false, false, false] rfl rfl (take_ofW HT_.out HW_.out (by kernel_rfl)) (fun _ _ _ h => h) (Or.inl ⟨by rfl, ?_⟩) hHeld ?_ ?_
                  rotate_left
                  · rintro w' ⟨s0, s1, s2, s3, s4, s5, s6, s7⟩
                    go_simp
                    with_reducible rfl
                  rotate_left
                  · exact AP_
                  refine one_ (i := 4) (N := some 37) #[true, true, true, true, true, false, false, false, false, false, false, false, false, false, false, false, false, false, false, false, false, false, false, false, false, false, false, false, false, false, false, false, false, false, false, false] rfl rfl (one_of HT_.out (by kernel_rfl)) (by decide) (fun K hK => ?_)
                  refine goes_ Tryd.func37 (by kernel_rfl) rfl #[.agg #[.int .i64 a0_0, .int .i64 a0_1]] (by rfl) rfl rfl MP_ ?_
                  with_reducible refine (warrantorref07_Show.calls k a0_0 a0_1 t577 _ A13.out).mono ?_
                  rintro e w65 ⟨rfl, hb⟩
                  refine ⟨_, rfl, ?_⟩
                  have n0_ := Aside0.mk (blk_below (g := gb561) (o := .cells #[.int .i64 a0_0, .int .i64 a0_1] 23 (0, 0)) (bk_ BK561.out) hb)
                  have n1_ := Aside0.mk (blk_below (g := gb567) (o := .cells #[.int .i64 t564, .int .i64 t565] 23 (0, 0)) (bk_ BK567.out) hb)
                  have n2_ := Aside0.mk (blk_below (g := gb571) (o := .cells #[.int .i64 t568, .int .i64 t569] 23 (0, 0)) (bk_ BK571.out) hb)
                  have n3_ := Aside0.mk (blk_below (g := gb575) (o := .cells #[.int .i64 t572, .int .i64 t573] 23 (0, 0)) (bk_ BK575.out) hb)
                  have n4_ := Aside0.mk (below_step HB_ hb)
                  clear BK561
                  clear BK567
                  clear BK571
                  clear BK575
                  clear HB
                  have BK561 := n0_
                  have BK567 := n1_
                  have BK571 := n2_
                  have BK575 := n3_
                  have HB := n4_
                  clear n0_ n1_ n2_ n3_ n4_
                  (try clear hb)
                  (try clear hb2)
                  (try clear hk)
                  (try clear hi)
                  refine hK.out _ _ ⟨(blk_cell BK561.out 0).trans rfl, (blk_cell BK561.out 1).trans rfl, (blk_cell BK567.out 0).trans rfl, (blk_cell BK567.out 1).trans rfl, (blk_cell BK571.out 0).trans rfl, (blk_cell BK571.out 1).trans rfl, (blk_cell BK575.out 0).trans rfl, (blk_cell BK575.out 1).trans rfl⟩ (fun hHeld => ?_)
                  clear hK K
                  refine norm_ (a' := ?_) ?_ ?_
                  rotate_left
                  · show Act.put _ (some 37) _ = _
                    simp only [Act.put, List.setIfInBounds_toArray, List.set_cons_zero, List.set_cons_succ, i64_w, i32_w]
                    rfl
                  refine pure_ (i := 5) (N := some 38) (v := ?_) (a' := ?_) #[true, true, true, true, true, true, false, false, false, false, false, false, false, false, false, false, false, false, false, false, false, false, false, false, false, false, false, false, false, false, false, false, false, false, false, false] rfl rfl (any_of HT_.out (by kernel_rfl)) (fun _ _ _ h => h) (Or.inl ⟨by rfl, ?_⟩) ?_ ?_
                  rotate_left
                  · intro w'
                    go_simp
                    with_reducible rfl
                  rotate_left
                  · exact AP_
                  refine pure_ (i := 6) (N := some 39) (v := ?_) (a' := ?_) #[true, true, true, true, true, true, true, false, false, false, false, false, false, false, false, false, false, false, false, false, false, false, false, false, false, false, false, false, false, false, false, false, false, false, false, false] rfl rfl (any_of HT_.out (by kernel_rfl)) (fun _ _ _ h => h) (Or.inl ⟨by rfl, ?_⟩) ?_ ?_
                  rotate_left
                  · intro w'
                    go_simp
                    with_reducible rfl
                  rotate_left
                  · exact AP_
                  refine pure_ (i := 7) (N := some 40) (v := ?_) (a' := ?_) #[true, true, true, true, true, true, true, true, false, false, false, false, false, false, false, false, false, false, false, false, false, false, false, false, false, false, false, false, false, false, false, false, false, false, false, false] rfl rfl (any_of HT_.out (by kernel_rfl)) (fun _ _ _ h => h) (Or.inl ⟨by rfl, ?_⟩) ?_ ?_
                  rotate_left
                  · intro w'
                    go_simp
                    with_reducible rfl
                  rotate_left
                  · exact AP_
                  refine pure_ (i := 8) (N := some 41) (v := ?_) (a' := ?_) #[true, true, true, true, true, true, true, true, true, false, false, false, false, false, false, false, false, false, false, false, false, false, false, false, false, false, false, false, false, false, false, false, false, false, false, false] rfl rfl (any_of HT_.out (by kernel_rfl)) (fun _ _ _ h => h) (Or.inl ⟨by rfl, ?_⟩) ?_ ?_
                  rotate_left
                  · intro w'
                    go_simp
                    with_reducible rfl
                  rotate_left
                  · exact AP_
                  refine pure_ (i := 9) (N := some 42) (v := ?_) (a' := ?_) #[true, true, true, true, true, true, true, true, true, true, false, false, false, false, false, false, false, false, false, false, false, false, false, false, false, false, false, false, false, false, false, false, false, false, false, false] rfl rfl (any_of HT_.out (by kernel_rfl)) (fun _ _ _ h => h) (Or.inl ⟨by rfl, ?_⟩) ?_ ?_
                  rotate_left
                  · intro w'
                    go_simp
                    with_reducible rfl
                  rotate_left
                  · exact AP_
                  refine pure_ (i := 10) (N := some 43) (v := ?_) (a' := ?_) #[true, true, true, true, true, true, true, true, true, true, true, false, false, false, false, false, false, false, false, false, false, false, false, false, false, false, false, false, false, false, false, false, false, false, false, false] rfl rfl (any_of HT_.out (by kernel_rfl)) (fun _ _ _ h => h) (Or.inl ⟨by rfl, ?_⟩) ?_ ?_
                  rotate_left
                  · intro w'
                    go_simp
                    with_reducible rfl
                  rotate_left
                  · exact AP_
                  refine pure_ (i := 11) (N := some 44) (v := ?_) (a' := ?_) #[true, true, true, true, true, true, true, true, true, true, true, true, false, false, false, false, false, false, false, false, false, false, false, false, false, false, false, false, false, false, false, false, false, false, false, false] rfl rfl (any_of HT_.out (by kernel_rfl)) (fun _ _ _ h => h) (Or.inl ⟨by rfl, ?_⟩) ?_ ?_
                  rotate_left
                  · intro w'
                    go_simp
                    with_reducible rfl
                  rotate_left
                  · exact AP_
                  refine take_ (i := 12) (N := some 45) (v := ?_) (a' := ?_) #[true, true, true, true, true, true, true, true, true, true, true, true, true, false, false, false, false, false, false, false, false, false, false, false, false, false, false, false, false, false, false, false, false, false, false, false] rfl rfl (take_ofW HT_.out HW_.out (by kernel_rfl)) (fun _ _ _ h => h) (Or.inl ⟨by rfl, ?_⟩) hHeld ?_ ?_
                  rotate_left
                  · rintro w' ⟨s0, s1, s2, s3, s4, s5, s6, s7⟩
                    go_simp
                    with_reducible rfl
                  rotate_left
                  · exact AP_
                  refine take_ (i := 13) (N := some 46) (v := ?_) (a' := ?_) #[true, true, true, true, true, true, true, true, true, true, true, true, true, true, false, false, false, false, false, false, false, false, false, false, false, false, false, false, false, false, false, false, false, false, false, false] rfl rfl (take_ofW HT_.out HW_.out (by kernel_rfl)) (fun _ _ _ h => h) (Or.inl ⟨by rfl, ?_⟩) hHeld ?_ ?_
                  rotate_left
                  · rintro w' ⟨s0, s1, s2, s3, s4, s5, s6, s7⟩
                    go_simp
                    with_reducible rfl
                  rotate_left
                  · exact AP_
                  refine one_ (i := 14) (N := some 47) #[true, true, true, true, true, true, true, true, true, true, true, true, true, true, true, false, false, false, false, false, false, false, false, false, false, false, false, false, false, false, false, false, false, false, false, false] rfl rfl (one_of HT_.out (by kernel_rfl)) (by decide) (fun K hK => ?_)
                  refine goes_ Tryd.func10 (by kernel_rfl) rfl #[.agg #[.int .i64 a0_0, .int .i64 a0_1]] (by rfl) rfl rfl MP_ ?_
                  with_reducible refine (warrantorref07_Plain.calls k a0_0 a0_1 t578 t579 _ A16.out).mono ?_
                  rintro e w66 ⟨rfl, hb⟩
                  refine ⟨_, rfl, ?_⟩
                  have n0_ := Aside0.mk (blk_below (g := gb561) (o := .cells #[.int .i64 a0_0, .int .i64 a0_1] 23 (0, 0)) (bk_ BK561.out) hb)
                  have n1_ := Aside0.mk (blk_below (g := gb567) (o := .cells #[.int .i64 t564, .int .i64 t565] 23 (0, 0)) (bk_ BK567.out) hb)
                  have n2_ := Aside0.mk (blk_below (g := gb571) (o := .cells #[.int .i64 t568, .int .i64 t569] 23 (0, 0)) (bk_ BK571.out) hb)
                  have n3_ := Aside0.mk (blk_below (g := gb575) (o := .cells #[.int .i64 t572, .int .i64 t573] 23 (0, 0)) (bk_ BK575.out) hb)
                  have n4_ := Aside0.mk (below_step HB_ hb)
                  clear BK561
                  clear BK567
                  clear BK571
                  clear BK575
                  clear HB
                  have BK561 := n0_
                  have BK567 := n1_
                  have BK571 := n2_
                  have BK575 := n3_
                  have HB := n4_
                  clear n0_ n1_ n2_ n3_ n4_
                  (try clear hb)
                  (try clear hb2)
                  (try clear hk)
                  (try clear hi)
                  refine hK.out _ _ ⟨(blk_cell BK561.out 0).trans rfl, (blk_cell BK561.out 1).trans rfl, (blk_cell BK567.out 0).trans rfl, (blk_cell BK567.out 1).trans rfl, (blk_cell BK571.out 0).trans rfl, (blk_cell BK571.out 1).trans rfl, (blk_cell BK575.out 0).trans rfl, (blk_cell BK575.out 1).trans rfl⟩ (fun hHeld => ?_)
                  clear hK K
                  refine norm_ (a' := ?_) ?_ ?_
                  rotate_left
                  · show Act.put _ (some 47) _ = _
                    simp only [Act.put, List.setIfInBounds_toArray, List.set_cons_zero, List.set_cons_succ, i64_w, i32_w]
                    rfl
                  refine pure_ (i := 15) (N := some 48) (v := ?_) (a' := ?_) #[true, true, true, true, true, true, true, true, true, true, true, true, true, true, true, true, false, false, false, false, false, false, false, false, false, false, false, false, false, false, false, false, false, false, false, false] rfl rfl (any_of HT_.out (by kernel_rfl)) (fun _ _ _ h => h) (Or.inl ⟨by rfl, ?_⟩) ?_ ?_
                  rotate_left
                  · intro w'
                    go_simp
                    with_reducible rfl
                  rotate_left
                  · exact AP_
                  refine pure_ (i := 16) (N := some 49) (v := ?_) (a' := ?_) #[true, true, true, true, true, true, true, true, true, true, true, true, true, true, true, true, true, false, false, false, false, false, false, false, false, false, false, false, false, false, false, false, false, false, false, false] rfl rfl (any_of HT_.out (by kernel_rfl)) (fun _ _ _ h => h) (Or.inl ⟨by rfl, ?_⟩) ?_ ?_
                  rotate_left
                  · intro w'
                    go_simp
                    with_reducible rfl
                  rotate_left
                  · exact AP_
                  refine pure_ (i := 17) (N := some 50) (v := ?_) (a' := ?_) #[true, true, true, true, true, true, true, true, true, true, true, true, true, true, true, true, true, true, false, false, false, false, false, false, false, false, false, false, false, false, false, false, false, false, false, false] rfl rfl (any_of HT_.out (by kernel_rfl)) (fun _ _ _ h => h) (Or.inl ⟨by rfl, ?_⟩) ?_ ?_
                  rotate_left
                  · intro w'
                    go_simp
                    with_reducible rfl
                  rotate_left
                  · exact AP_
                  refine take_ (i := 18) (N := some 51) (v := ?_) (a' := ?_) #[true, true, true, true, true, true, true, true, true, true, true, true, true, true, true, true, true, true, true, false, false, false, false, false, false, false, false, false, false, false, false, false, false, false, false, false] rfl rfl (take_ofW HT_.out HW_.out (by kernel_rfl)) (fun _ _ _ h => h) (Or.inl ⟨by rfl, ?_⟩) hHeld ?_ ?_
                  rotate_left
                  · rintro w' ⟨s0, s1, s2, s3, s4, s5, s6, s7⟩
                    go_simp
                    with_reducible rfl
                  rotate_left
                  · exact AP_
                  refine take_ (i := 19) (N := some 52) (v := ?_) (a' := ?_) #[true, true, true, true, true, true, true, true, true, true, true, true, true, true, true, true, true, true, true, true, false, false, false, false, false, false, false, false, false, false, false, false, false, false, false, false] rfl rfl (take_ofW HT_.out HW_.out (by kernel_rfl)) (fun _ _ _ h => h) (Or.inl ⟨by rfl, ?_⟩) hHeld ?_ ?_
                  rotate_left
                  · rintro w' ⟨s0, s1, s2, s3, s4, s5, s6, s7⟩
                    go_simp
                    with_reducible rfl
                  rotate_left
                  · exact AP_
                  refine pure_ (i := 20) (N := some 53) (v := ?_) (a' := ?_) #[true, true, true, true, true, true, true, true, true, true, true, true, true, true, true, true, true, true, true, true, true, false, false, false, false, false, false, false, false, false, false, false, false, false, false, false] rfl rfl (any_of HT_.out (by kernel_rfl)) (fun _ _ _ h => h) (Or.inl ⟨by rfl, ?_⟩) ?_ ?_
                  rotate_left
                  · intro w'
                    go_simp
                    with_reducible rfl
                  rotate_left
                  · exact AP_
                  refine pure_ (i := 21) (N := some 54) (v := ?_) (a' := ?_) #[true, true, true, true, true, true, true, true, true, true, true, true, true, true, true, true, true, true, true, true, true, true, false, false, false, false, false, false, false, false, false, false, false, false, false, false] rfl rfl (any_of HT_.out (by kernel_rfl)) (fun _ _ _ h => h) (Or.inl ⟨by rfl, ?_⟩) ?_ ?_
                  rotate_left
                  · intro w'
                    go_simp
                    with_reducible rfl
                  rotate_left
                  · exact AP_
                  refine pure_ (i := 22) (N := some 55) (v := ?_) (a' := ?_) #[true, true, true, true, true, true, true, true, true, true, true, true, true, true, true, true, true, true, true, true, true, true, true, false, false, false, false, false, false, false, false, false, false, false, false, false] rfl rfl (any_of HT_.out (by kernel_rfl)) (fun _ _ _ h => h) (Or.inl ⟨by rfl, ?_⟩) ?_ ?_
                  rotate_left
                  · intro w'
                    go_simp
                    with_reducible rfl
                  rotate_left
                  · exact AP_
                  refine pure_ (i := 23) (N := some 56) (v := ?_) (a' := ?_) #[true, true, true, true, true, true, true, true, true, true, true, true, true, true, true, true, true, true, true, true, true, true, true, true, false, false, false, false, false, false, false, false, false, false, false, false] rfl rfl (any_of HT_.out (by kernel_rfl)) (fun _ _ _ h => h) (Or.inl ⟨by rfl, ?_⟩) ?_ ?_
                  rotate_left
                  · intro w'
                    go_simp
                    with_reducible rfl
                  rotate_left
                  · exact AP_
                  refine pure_ (i := 24) (N := some 57) (v := ?_) (a' := ?_) #[true, true, true, true, true, true, true, true, true, true, true, true, true, true, true, true, true, true, true, true, true, true, true, true, true, false, false, false, false, false, false, false, false, false, false, false] rfl rfl (any_of HT_.out (by kernel_rfl)) (fun _ _ _ h => h) (Or.inl ⟨by rfl, ?_⟩) ?_ ?_
                  rotate_left
                  · intro w'
                    go_simp
                    with_reducible rfl
                  rotate_left
                  · exact AP_
                  refine pure_ (i := 25) (N := some 58) (v := ?_) (a' := ?_) #[true, true, true, true, true, true, true, true, true, true, true, true, true, true, true, true, true, true, true, true, true, true, true, true, true, true, false, false, false, false, false, false, false, false, false, false] rfl rfl (any_of HT_.out (by kernel_rfl)) (fun _ _ _ h => h) (Or.inl ⟨by rfl, ?_⟩) ?_ ?_
                  rotate_left
                  · intro w'
                    go_simp
                    with_reducible rfl
                  rotate_left
                  · exact AP_
                  refine pure_ (i := 26) (N := some 59) (v := ?_) (a' := ?_) #[true, true, true, true, true, true, true, true, true, true, true, true, true, true, true, true, true, true, true, true, true, true, true, true, true, true, true, false, false, false, false, false, false, false, false, false] rfl rfl (any_of HT_.out (by kernel_rfl)) (fun _ _ _ h => h) (Or.inl ⟨by rfl, ?_⟩) ?_ ?_
                  rotate_left
                  · intro w'
                    go_simp
                    with_reducible rfl
                  rotate_left
                  · exact AP_
                  refine pure_ (i := 27) (N := some 60) (v := ?_) (a' := ?_) #[true, true, true, true, true, true, true, true, true, true, true, true, true, true, true, true, true, true, true, true, true, true, true, true, true, true, true, true, false, false, false, false, false, false, false, false] rfl rfl (any_of HT_.out (by kernel_rfl)) (fun _ _ _ h => h) (Or.inl ⟨by rfl, ?_⟩) ?_ ?_
                  rotate_left
                  · intro w'
                    go_simp
                    with_reducible rfl
                  rotate_left
                  · exact AP_
                  refine pure_ (i := 28) (N := some 61) (v := ?_) (a' := ?_) #[true, true, true, true, true, true, true, true, true, true, true, true, true, true, true, true, true, true, true, true, true, true, true, true, true, true, true, true, true, false, false, false, false, false, false, false] rfl rfl (any_of HT_.out (by kernel_rfl)) (fun _ _ _ h => h) (Or.inl ⟨by rfl, ?_⟩) ?_ ?_
                  rotate_left
                  · intro w'
                    go_simp
                    with_reducible rfl
                  rotate_left
                  · exact AP_
                  refine pure_ (i := 29) (N := some 62) (v := ?_) (a' := ?_) #[true, true, true, true, true, true, true, true, true, true, true, true, true, true, true, true, true, true, true, true, true, true, true, true, true, true, true, true, true, true, false, false, false, false, false, false] rfl rfl (any_of HT_.out (by kernel_rfl)) (fun _ _ _ h => h) (Or.inl ⟨by rfl, ?_⟩) ?_ ?_
                  rotate_left
                  · intro w'
                    go_simp
                    with_reducible rfl
                  rotate_left
                  · exact AP_
                  refine pure_ (i := 30) (N := some 63) (v := ?_) (a' := ?_) #[true, true, true, true, true, true, true, true, true, true, true, true, true, true, true, true, true, true, true, true, true, true, true, true, true, true, true, true, true, true, true, false, false, false, false, false] rfl rfl (any_of HT_.out (by kernel_rfl)) (fun _ _ _ h => h) (Or.inl ⟨by rfl, ?_⟩) ?_ ?_
                  rotate_left
                  · intro w'
                    go_simp
                    with_reducible rfl
                  rotate_left
                  · exact AP_
                  refine pure_ (i := 31) (N := some 64) (v := ?_) (a' := ?_) #[true, true, true, true, true, true, true, true, true, true, true, true, true, true, true, true, true, true, true, true, true, true, true, true, true, true, true, true, true, true, true, true, false, false, false, false] rfl rfl (any_of HT_.out (by kernel_rfl)) (fun _ _ _ h => h) (Or.inl ⟨by rfl, ?_⟩) ?_ ?_
                  rotate_left
                  · intro w'
                    go_simp
                    with_reducible rfl
                  rotate_left
                  · exact AP_
                  refine pure_ (i := 32) (N := some 65) (v := ?_) (a' := ?_) #[true, true, true, true, true, true, true, true, true, true, true, true, true, true, true, true, true, true, true, true, true, true, true, true, true, true, true, true, true, true, true, true, true, false, false, false] rfl rfl (any_of HT_.out (by kernel_rfl)) (fun _ _ _ h => h) (Or.inl ⟨by rfl, ?_⟩) ?_ ?_
                  rotate_left
                  · intro w'
                    go_simp
                    with_reducible rfl
                  rotate_left
                  · exact AP_
                  refine pure_ (i := 33) (N := some 66) (v := ?_) (a' := ?_) #[true, true, true, true, true, true, true, true, true, true, true, true, true, true, true, true, true, true, true, true, true, true, true, true, true, true, true, true, true, true, true, true, true, true, false, false] rfl rfl (any_of HT_.out (by kernel_rfl)) (fun _ _ _ h => h) (Or.inl ⟨by rfl, ?_⟩) ?_ ?_
                  rotate_left
                  · intro w'
                    go_simp
                    with_reducible rfl
                  rotate_left
                  · exact AP_
                  refine pure_ (i := 34) (N := some 67) (v := ?_) (a' := ?_) #[true, true, true, true, true, true, true, true, true, true, true, true, true, true, true, true, true, true, true, true, true, true, true, true, true, true, true, true, true, true, true, true, true, true, true, false] rfl rfl (any_of HT_.out (by kernel_rfl)) (fun _ _ _ h => h) (Or.inl ⟨by rfl, ?_⟩) ?_ ?_
                  rotate_left
                  · intro w'
                    go_simp
                    with_reducible rfl
                  rotate_left
                  · exact AP_
                  refine pure_ (i := 35) (N := some 4) (v := ?_) (a' := ?_) #[true, true, true, true, true, true, true, true, true, true, true, true, true, true, true, true, true, true, true, true, true, true, true, true, true, true, true, true, true, true, true, true, true, true, true, true] rfl rfl (any_of HT_.out (by kernel_rfl)) (fun _ _ _ h => h) (Or.inl ⟨by rfl, ?_⟩) ?_ ?_
                  rotate_left
                  · intro w'
                    go_simp
                    with_reducible rfl
                  rotate_left
                  · exact AP_
                  refine done_ (done_of HT_.out (by kernel_rfl)) ?_
                  try go_wp2
                  go_ret
                  exact ⟨by first | rfl | (simp [errW_none, errW_some] <;> rfl) | (simp [*, errW_none, errW_some] <;> rfl), by repeat (first | (with_reducible first | exact HB.out | apply below_alloc | apply pw_below_drewN | apply below_drew1 | refine below_set ?_ GE561.out | refine below_set ?_ GE567.out | refine below_set ?_ GE571.out | refine below_set ?_ GE575.out) | exact HB.out)⟩
              · rw [if_neg c19] at H
                exact absurd H (by simp)
            · rw [if_neg c18] at H
              exact absurd H (by simp)
          · rw [if_neg c17] at H
            exact absurd H (by simp)
        · rw [if_neg c15] at H
          exact absurd H (by simp)
      · rw [if_neg c14] at H
        exact absurd H (by simp)
    · replace c12 := Bool.eq_false_iff.mpr c12
      subst c12
      have H1 : (none) = some r := by rw [if_neg (show ¬ (false = true) by decide)] at H; exact H
      clear H
      have H := H1
      clear H1
      exact absurd H (by simp)

/-- THE ONE PURE STATEMENT of warrantorlaw07_ItvTexts: yours. -/
def warrantorlaw07_ItvTexts.Pure : Prop := ∀ (a0_0 : Int) (a0_1 : Int) (a1 : ByteArray), (Lit.int .i64 a0_0).wf = true → (Lit.int .i64 a0_1).wf = true → a1.size ≤ 140737488351232 → ∃ k, warrantorlaw07_ItvTexts.f k a0_0 a0_1 a1 = some true
theorem warrantorlaw07_ItvTexts.walk (P : warrantorlaw07_ItvTexts.Pure) (a0_0 : Int) (a0_1 : Int) (a1 : ByteArray) (w : World) (htab : TB w) (w0_0 : (Lit.int .i64 a0_0).wf = true) (w0_1 : (Lit.int .i64 a0_1).wf = true) (w1 : a1.size ≤ 140737488351232) :
    Calls Tryd.prog 7 #[.agg #[.int .i64 a0_0, .int .i64 a0_1], .string a1] w fun e w' => e = .returned (.bool true) ∧ Below w.heap.size w w' := by
  obtain ⟨k, h⟩ := P a0_0 a0_1 a1 w0_0 w0_1 w1
  refine (warrantorlaw07_ItvTexts.calls k a0_0 a0_1 a1 true w htab h).mono ?_
  rintro e w' ⟨rfl, hd⟩
  exact ⟨rfl, hd⟩

end Go.Proofs.YtkailfmehmgolaaDoor.R
