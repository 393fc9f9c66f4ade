-- WRITTEN BY this session's program wip/ext.py, in print.py's manner
import Derived.Test.YtkailfmehmgolaaDoorRx0
import Derived.Test.YtkailfmehmgolaaDoorRx15
import Derived.Test.YtkailfmehmgolaaDoorRx26
namespace Go.Proofs.YtkailfmehmgolaaDoor.R
open Go.RowKit Go.Proofs.YtkailfmehmgolaaDoorW.PrintWords Go.Proofs.YtkailfmehmgolaaDoorW.PrintLast Go.Proofs.YtkailfmehmgolaaDoorW.PrintMore
attribute [local go_sem] max2_int min2_int max_two min_two max_three min_three max_four min_four   -- for this text's walks alone
set_option linter.unusedVariables false
set_option linter.unusedSimpArgs false

/-! ### warrantorref07_Parse: function 36 -/
def warrantorref07_Parse.l0 : Nat → ByteArray → Int → Option (Int × Int × Bool)
  | 0, _, _ => none
  | k + 1, x0, x4 => if (wrap64 (x4 + 1)) < (x0.size : Int) then (if 0 ≤ x4 then (if x4 < (x0.size : Int) then (if (bt x0 x4) = 44 then (if 1 ≤ x4 then (if x4 ≤ (x0.size : Int) then ((warrantorref06_Parse.f k (x0.extract 1 (x4 : Int).toNat)).bind fun bt555 => (if (wrap64 (x4 + 2)) > (wrap64 ((x0.size : Int) - 1)) then (some (0, 0, false)) else (if 0 ≤ (wrap64 (x4 + 2)) then (if (wrap64 (x4 + 2)) ≤ (wrap64 ((x0.size : Int) - 1)) then (if (wrap64 ((x0.size : Int) - 1)) ≤ (x0.size : Int) then ((warrantorref06_Parse.f k (x0.extract ((wrap64 (x4 + 2)) : Int).toNat ((wrap64 ((x0.size : Int) - 1)) : Int).toNat)).bind fun bt557 => (if bt555.2 = true then (if bt557.2 = true then ((warrantorref07_Show.f k bt555.1 bt557.1).bind fun t560 => (if t560.toList = x0.toList then (some (bt555.1, bt557.1, true)) else (some (0, 0, false)))) else (some (0, 0, false))) else (some (0, 0, false)))) else (none)) else (none)) else (none)))) else (none)) else (none)) else (warrantorref07_Parse.l0 k x0 (wrap64 (x4 + 1)))) else (none)) else (none)) else (some (0, 0, false))
def warrantorref07_Parse.f (k : Nat) (a0 : ByteArray) : Option (Int × Int × Bool) := if a0.toList = ([110, 111, 110, 101] : List UInt8) then ((warrantorref07_None.f).bind fun bt553 => (some (bt553.1, bt553.2, true))) else (warrantorref07_Parse.l0 k a0 1)
theorem warrantorref07_Parse.mono_l : ∀ k, (∀ y0 y1, LeO (warrantorref07_Parse.l0 k y0 y1) (warrantorref07_Parse.l0 (k + 1) y0 y1))
  | 0 => fun _ _ r h => by simp [warrantorref07_Parse.l0] at h
  | k + 1 => by
    have ih0 := warrantorref07_Parse.mono_l k
    · intro y0 y1
      unfold warrantorref07_Parse.l0
      repeat' first
      | (with_reducible exact ih0 _ _)
      | (with_reducible exact warrantorref06_Parse.mono _ _)
      | (with_reducible exact warrantorref07_Show.mono _ _ _)
      | (with_reducible exact LeO.refl _)
      | (with_reducible exact LeO.none _)
      | (with_reducible refine LeO.ite ?_ ?_)
      | (with_reducible refine LeO.bind ?_ (fun _ => ?_))
      | exact ih0 _ _
      | exact warrantorref06_Parse.mono _ _
      | exact warrantorref07_Show.mono _ _ _
      | exact LeO.none _
      | refine LeO.ite ?_ ?_
      | refine LeO.bind ?_ (fun _ => ?_)
theorem warrantorref07_Parse.mono : ∀ a0 k, LeO (warrantorref07_Parse.f k a0) (warrantorref07_Parse.f (k + 1) a0) := by
  intro a0 k
  have ih0 := warrantorref07_Parse.mono_l k
  unfold warrantorref07_Parse.f
  repeat' first
      | (with_reducible exact ih0 _ _)
      | (with_reducible exact warrantorref06_Parse.mono _ _)
      | (with_reducible exact warrantorref07_Show.mono _ _ _)
      | (with_reducible exact LeO.refl _)
      | (with_reducible exact LeO.none _)
      | (with_reducible refine LeO.ite ?_ ?_)
      | (with_reducible refine LeO.bind ?_ (fun _ => ?_))
      | exact ih0 _ _
      | exact warrantorref06_Parse.mono _ _
      | exact warrantorref07_Show.mono _ _ _
      | exact LeO.none _
      | refine LeO.ite ?_ ?_
      | refine LeO.bind ?_ (fun _ => ?_)
set_option maxHeartbeats 8000000 in
set_option maxRecDepth 100000 in
theorem warrantorref07_Parse.calls (k : Nat) (a0 : ByteArray) (r1 : Int) (r2 : Int) (r3 : Bool) (w : World) (h : warrantorref07_Parse.f k a0 = some (r1, r2, r3)) :
    Calls Tryd.prog 36 #[.string a0] w fun e w' => e = .returned (.tuple #[.agg #[.int .i64 r1, .int .i64 r2], .bool r3]) ∧ Below w.heap.size w w' := by
  have hu23 := Tryd.underlying23
  have HB := Aside0.mk (Below.refl w.heap.size w)
  have H : (if a0.toList = ([110, 111, 110, 101] : List UInt8) then ((warrantorref07_None.f).bind fun bt553 => (some (bt553.1, bt553.2, true))) else (warrantorref07_Parse.l0 k a0 1)) = some (r1, r2, r3) := h
  clear h
  by_cases c2 : a0.toList = ([110, 111, 110, 101] : List UInt8)
  · rw [if_pos c2] at H
    have c2b0 : (a0.toList == ([110, 111, 110, 101] : List UInt8)) = true := beq_iff_eq.mpr c2
    have c2b1 : (a0.toList != ([110, 111, 110, 101] : List UInt8)) = false := bne_eq_false_iff_eq.mpr c2
    clear c2
    replace H := Option.bind_eq_some_iff.mp H
    obtain ⟨⟨t553, t554⟩, A30, H⟩ := H
    replace H : (some (t553, t554, true)) = some (r1, r2, r3) := H
    have A3 := Aside0.mk A30
    clear A30
    simp only [Option.some.injEq, Prod.mk.injEq] at H
    obtain ⟨rfl, rfl, rfl⟩ := H
    go_enter Tryd.func36, Tryd.ntmps36
    go_wp2_with (first | ((with_reducible refine gate_dst (N := 2) rfl ?_); refine box_event ?hg (N := 2) ?hd (cs := #[.int .i64 0, .int .i64 0]) (t := 23) ?hr ?_; (case hd => rfl); (case hg => rfl); (case hr => first | (go_simp; done) | (go_simp; rfl)); intro gb552 hg w4 hbox hb; have n0_ := Aside0.mk (below_step HB_ hb); have n1_ := Aside0.mk (hbox); have n2_ := Aside0.mk ((by rw [hg]; exact (below_size HB_) : w.heap.size ≤ gb552)); have n3_ := Aside0.mk ((by rw [hg]; exact (below_size HB_) : w.heap.size ≤ gb552)); clear HB; have HB := n0_; have BK552 := n1_; have GW552 := n2_; have GE552 := n3_; clear n0_ n1_ n2_ n3_; clear hb hbox hg) | ((with_reducible refine gate_callee (f := 42) rfl ?_); refine goesL_ (some 12) rfl rfl Tryd.func42 (by kernel_rfl) rfl #[] rfl MP_ ?_; (with_reducible refine (warrantorref07_None.calls  t553 t554 _ A3.out).mono ?_); rintro e w5 ⟨rfl, hb⟩; refine ⟨_, rfl, ?_⟩; have n0_ := Aside0.mk (blk_below (g := gb552) (o := .cells #[.int .i64 0, .int .i64 0] 23 (0, 0)) (bk_ BK552.out) hb); have n1_ := Aside0.mk (below_step HB_ hb); clear BK552; clear HB; have BK552 := n0_; have HB := n1_; clear n0_ n1_; (try clear hb); (try clear hb2); (try clear hk); (try clear hi); have hcz6_0 : w5.cell? ⟨gb552, 0, none⟩ = some (.int .i64 0) := (blk_cell BK552.out 0).trans rfl; have hcz6_1 : w5.cell? ⟨gb552, 1, none⟩ = some (.int .i64 0) := (blk_cell BK552.out 1).trans rfl; have hfz6_0 := blk_frozen BK552.out 0; have hfz6_1 := blk_frozen BK552.out 1))
    refine bodyPost_ret (results_ct rfl _ _ gb552 23 #[.int .i64 t553, .int .i64 t554] (0, 0) _ rfl (bk2_ BK552.out) Tryd.underlying23 rfl (by kernel_rfl)) rfl ?_
    exact ⟨by first | rfl | (simp [errW_none, errW_some] <;> rfl) | (simp [*, errW_none, errW_some] <;> rfl), by repeat (first | (with_reducible first | exact HB.out | apply below_alloc | apply pw_below_drewN | apply below_drew1 | refine below_set ?_ GE552.out) | exact HB.out)⟩
  · rw [if_neg c2] at H
    have c2b0 : (a0.toList == ([110, 111, 110, 101] : List UInt8)) = false := beq_eq_false_iff_ne.mpr c2
    have c2b1 : (a0.toList != ([110, 111, 110, 101] : List UInt8)) = true := bne_iff_ne.mpr c2
    have H' := Aside0.mk H
    clear H
    go_enter Tryd.func36, Tryd.ntmps36
    go_wp2_with (first | ((with_reducible refine gate_dst (N := 2) rfl ?_); refine box_event ?hg (N := 2) ?hd (cs := #[.int .i64 0, .int .i64 0]) (t := 23) ?hr ?_; (case hd => rfl); (case hg => rfl); (case hr => first | (go_simp; done) | (go_simp; rfl)); intro gb552 hg w7 hbox hb; have n0_ := Aside0.mk (below_step HB_ hb); have n1_ := Aside0.mk (hbox); have n2_ := Aside0.mk ((by rw [hg]; exact (below_size HB_) : w.heap.size ≤ gb552)); have n3_ := Aside0.mk ((by rw [hg]; exact (below_size HB_) : w.heap.size ≤ gb552)); clear HB; have HB := n0_; have BK552 := n1_; have GW552 := n2_; have GE552 := n3_; clear n0_ n1_ n2_ n3_; clear hb hbox hg))
    go_loopg [4] k (fun kq v4 w' => ∃ (x4_1 : Int) (x553000_1 : Int) (x553001_1 : Int), v4 = .int .i64 x4_1 ∧ Aside0 (warrantorref07_Parse.l0 kq a0 x4_1 = some (r1, r2, r3)) ∧ Aside0 (kq ≤ k) ∧ Aside0 (w'.heap[gb552]? = some (.cells #[.int .i64 x553000_1, .int .i64 x553001_1] 23 (0, 0))) ∧ Aside0 (Below w.heap.size w w'))
    case atStart => exact ⟨(1), (0), (0), (by first | rfl | (simp; done) | (simp [*]; done)), H', ⟨Nat.le_refl _⟩, ⟨by (with_reducible repeat (first | refine blk_drewN ?_ _ | refine blk_drew ?_ | refine blk_alloc ?_ _)); exact BK552.out⟩, ⟨by repeat (first | (with_reducible first | exact HB.out | apply below_alloc | apply pw_below_drewN | apply below_drew1 | refine below_set ?_ GE552.out) | exact HB.out)⟩⟩
    case round =>
      clear H'
      try clear c2
      try clear c2b0
      try clear c2b1
      try clear p2
      try clear c3
      try clear c4
      try clear hcz6_0
      try clear hcz6_1
      try clear hfz6_0
      try clear hfz6_1
      obtain ⟨x4_1, x553000_1, x553001_1, rfl, HA, HK1, BK552, HB⟩ := hrel
      cases gk with
      | zero => exact absurd HA.out (by simp [warrantorref07_Parse.l0])
      | succ k1 =>
        have H := HA.out
        clear HA
        simp only [warrantorref07_Parse.l0] at H
        by_cases c8 : (wrap64 (x4_1 + 1)) < (a0.size : Int)
        · rw [if_pos c8] at H
          have c8b0 : decide ((wrap64 (x4_1 + 1)) < (a0.size : Int)) = true := decide_eq_true c8
          have c8b0v : decide ((IntKind.i64.wrap (x4_1 + 1)) < (a0.size : Int)) = true := by (try simp only [i64_w]); exact c8b0
          clear c8
          by_cases c9 : 0 ≤ x4_1
          · rw [if_pos c9] at H
            have c9b0 : decide (0 ≤ x4_1) = true := decide_eq_true c9
            clear c9
            by_cases c10 : x4_1 < (a0.size : Int)
            · rw [if_pos c10] at H
              have c10b0 : decide (x4_1 < (a0.size : Int)) = true := decide_eq_true c10
              clear c10
              by_cases c12 : (bt a0 x4_1) = 44
              · rw [if_pos c12] at H
                have c12b0 : ((bt a0 x4_1) == 44) = true := beq_iff_eq.mpr c12
                have c12b1 : ((bt a0 x4_1) != 44) = false := bne_eq_false_iff_eq.mpr c12
                clear c12
                by_cases c13 : 1 ≤ x4_1
                · rw [if_pos c13] at H
                  have c13b0 := eq_true c13
                  have c13b1 : decide (1 ≤ x4_1) = true := decide_eq_true c13
                  clear c13
                  by_cases c14 : x4_1 ≤ (a0.size : Int)
                  · rw [if_pos c14] at H
                    have c14b0 := eq_true c14
                    have c14b1 : decide (x4_1 ≤ (a0.size : Int)) = true := decide_eq_true c14
                    clear c14
                    replace H := Option.bind_eq_some_iff.mp H
                    obtain ⟨⟨t555, t556⟩, A150, H⟩ := H
                    replace H : (if (wrap64 (x4_1 + 2)) > (wrap64 ((a0.size : Int) - 1)) then (some (0, 0, false)) else (if 0 ≤ (wrap64 (x4_1 + 2)) then (if (wrap64 (x4_1 + 2)) ≤ (wrap64 ((a0.size : Int) - 1)) then (if (wrap64 ((a0.size : Int) - 1)) ≤ (a0.size : Int) then ((warrantorref06_Parse.f k1 (a0.extract ((wrap64 (x4_1 + 2)) : Int).toNat ((wrap64 ((a0.size : Int) - 1)) : Int).toNat)).bind fun bt557 => (if t556 = true then (if bt557.2 = true then ((warrantorref07_Show.f k1 t555 bt557.1).bind fun t560 => (if t560.toList = a0.toList then (some (t555, bt557.1, true)) else (some (0, 0, false)))) else (some (0, 0, false))) else (some (0, 0, false)))) else (none)) else (none)) else (none))) = some (r1, r2, r3) := H
                    have A15 := Aside0.mk A150
                    clear A150
                    by_cases c16 : (wrap64 (x4_1 + 2)) > (wrap64 ((a0.size : Int) - 1))
                    · rw [if_pos c16] at H
                      have c16b0 : decide ((wrap64 ((a0.size : Int) - 1)) < (wrap64 (x4_1 + 2))) = true := decide_eq_true c16
                      have c16b0v : decide ((IntKind.i64.wrap ((a0.size : Int) - 1)) < (IntKind.i64.wrap (x4_1 + 2))) = true := by (try simp only [i64_w]); exact c16b0
                      clear c16
                      simp only [Option.some.injEq, Prod.mk.injEq] at H
                      obtain ⟨rfl, rfl, rfl⟩ := H
                      have p11 : 0 ≤ (x4_1 : Int) := of_decide_eq_true (by first | (with_reducible assumption) | assumption)
                      have q11 : x4_1 < (a0.size : Int) := of_decide_eq_true (by first | (with_reducible assumption) | assumption)
                      have hx11 := bt_at a0 x4_1
                      replace p11 := eq_true p11
                      replace q11 := eq_true q11
                      go_wp2_with (first | ((with_reducible refine gate_callee (f := 48) rfl ?_); refine goesL_ (some 28) rfl rfl Tryd.func48 (by kernel_rfl) rfl #[.string (a0.extract 1 (x4_1 : Int).toNat)] rfl MP_ ?_; (with_reducible refine (warrantorref06_Parse.calls k1 (a0.extract 1 (x4_1 : Int).toNat) t555 t556 _ A15.out).mono ?_); rintro e w' ⟨rfl, ⟨nd, rfl⟩⟩; refine ⟨_, rfl, ?_⟩; (try (rw [drewN_self wr]; generalize hq_ : World.drewN wr _ = wr; have n0_ : Aside0 (wr.heap[gb552]? = some (.cells #[.int .i64 x553000_1, .int .i64 x553001_1] 23 (0, 0))) := ⟨by rw [← hq_]; exact (bk_ BK552.out)⟩; have n1_ : Aside0 (Below w.heap.size w wr) := ⟨by rw [← hq_]; exact HB_⟩; clear BK552 HB hq_; have BK552 := n0_; have HB := n1_; clear n0_ n1_)); have hcz17_0 : wr.cell? ⟨gb552, 0, none⟩ = some (.int .i64 x553000_1) := (blk_cell BK552.out 0).trans rfl; have hcz17_1 : wr.cell? ⟨gb552, 1, none⟩ = some (.int .i64 x553001_1) := (blk_cell BK552.out 1).trans rfl; have hfz17_0 := blk_frozen BK552.out 0; have hfz17_1 := blk_frozen BK552.out 1))
                      refine bodyPost_ret (results_ct rfl _ _ gb552 23 #[.int .i64 0, .int .i64 0] (0, 0) _ rfl (bk2_ BK552.out) Tryd.underlying23 rfl (by kernel_rfl)) rfl ?_
                      exact ⟨by first | rfl | (simp [errW_none, errW_some] <;> rfl) | (simp [*, errW_none, errW_some] <;> rfl), by repeat (first | (with_reducible first | exact HB.out | apply below_alloc | apply pw_below_drewN | apply below_drew1 | refine below_set ?_ GE552.out) | exact HB.out)⟩
                    · rw [if_neg c16] at H
                      have c16b0 : decide ((wrap64 ((a0.size : Int) - 1)) < (wrap64 (x4_1 + 2))) = false := decide_eq_false c16
                      have c16b0v : decide ((IntKind.i64.wrap ((a0.size : Int) - 1)) < (IntKind.i64.wrap (x4_1 + 2))) = false := by (try simp only [i64_w]); exact c16b0
                      clear c16
                      obtain ⟨ji18, hji18⟩ : ∃ j_ : Int, (wrap64 (x4_1 + 2)) = j_ := ⟨_, rfl⟩
                      replace H : (if 0 ≤ (ji18) then (if (ji18) ≤ (wrap64 ((a0.size : Int) - 1)) then (if (wrap64 ((a0.size : Int) - 1)) ≤ (a0.size : Int) then ((warrantorref06_Parse.f k1 (a0.extract ((ji18) : Int).toNat ((wrap64 ((a0.size : Int) - 1)) : Int).toNat)).bind fun bt557 => (if t556 = true then (if bt557.2 = true then ((warrantorref07_Show.f k1 t555 bt557.1).bind fun t560 => (if t560.toList = a0.toList then (some (t555, bt557.1, true)) else (some (0, 0, false)))) else (some (0, 0, false))) else (some (0, 0, false)))) else (none)) else (none)) else (none)) = some (r1, r2, r3) := by first | (rw [hji18] at H; exact H) | (simp only [hji18] at H ⊢; exact H)
                      (try rw [hji18] at c16b0)
                      (try rw [hji18] at A15)
                      have hji18w : (IntKind.i64.wrap (x4_1 + 2)) = ji18 := (i64_w _).trans hji18
                      by_cases c19 : 0 ≤ (ji18)
                      · rw [if_pos c19] at H
                        have c19b0 := eq_true c19
                        have c19b1 : decide (0 ≤ (ji18)) = true := decide_eq_true c19
                        clear c19
                        by_cases c20 : (ji18) ≤ (wrap64 ((a0.size : Int) - 1))
                        · rw [if_pos c20] at H
                          have c20b0 := eq_true c20
                          have c20b1 : decide ((ji18) ≤ (wrap64 ((a0.size : Int) - 1))) = true := decide_eq_true c20
                          have c20b1v : decide ((ji18) ≤ (IntKind.i64.wrap ((a0.size : Int) - 1))) = true := by (try simp only [i64_w]); exact c20b1
                          clear c20
                          by_cases c21 : (wrap64 ((a0.size : Int) - 1)) ≤ (a0.size : Int)
                          · rw [if_pos c21] at H
                            have c21b0 := eq_true c21
                            have c21b1 : decide ((wrap64 ((a0.size : Int) - 1)) ≤ (a0.size : Int)) = true := decide_eq_true c21
                            have c21b1v : decide ((IntKind.i64.wrap ((a0.size : Int) - 1)) ≤ (a0.size : Int)) = true := by (try simp only [i64_w]); exact c21b1
                            clear c21
                            replace H := Option.bind_eq_some_iff.mp H
                            obtain ⟨⟨t557, t558⟩, A220, H⟩ := H
                            replace H : (if t556 = true then (if t558 = true then ((warrantorref07_Show.f k1 t555 t557).bind fun t560 => (if t560.toList = a0.toList then (some (t555, t557, true)) else (some (0, 0, false)))) else (some (0, 0, false))) else (some (0, 0, false))) = some (r1, r2, r3) := H
                            have A22 := Aside0.mk A220
                            clear A220
                            by_cases c23 : t556 = true
                            · subst c23
                              have H1 : (if t558 = true then ((warrantorref07_Show.f k1 t555 t557).bind fun t560 => (if t560.toList = a0.toList then (some (t555, t557, true)) else (some (0, 0, false)))) else (some (0, 0, false))) = some (r1, r2, r3) := by rw [if_pos rfl] at H; exact H
                              clear H
                              have H := H1
                              clear H1
                              by_cases c24 : t558 = true
                              · subst c24
                                have H1 : ((warrantorref07_Show.f k1 t555 t557).bind fun t560 => (if t560.toList = a0.toList then (some (t555, t557, true)) else (some (0, 0, false)))) = some (r1, r2, r3) := by rw [if_pos rfl] at H; exact H
                                clear H
                                have H := H1
                                clear H1
                                replace H := Option.bind_eq_some_iff.mp H
                                obtain ⟨t560, A250, H⟩ := H
                                replace H : (if t560.toList = a0.toList then (some (t555, t557, true)) else (some (0, 0, false))) = some (r1, r2, r3) := H
                                have A25 := Aside0.mk A250
                                clear A250
                                by_cases c26 : t560.toList = a0.toList
                                · rw [if_pos c26] at H
                                  have c26b0 : (t560.toList == a0.toList) = true := beq_iff_eq.mpr c26
                                  have c26b1 : (t560.toList != a0.toList) = false := bne_eq_false_iff_eq.mpr c26
                                  clear c26
                                  simp only [Option.some.injEq, Prod.mk.injEq] at H
                                  obtain ⟨rfl, rfl, rfl⟩ := H
                                  have p11 : 0 ≤ (x4_1 : Int) := of_decide_eq_true (by first | (with_reducible assumption) | assumption)
                                  have q11 : x4_1 < (a0.size : Int) := of_decide_eq_true (by first | (with_reducible assumption) | assumption)
                                  have hx11 := bt_at a0 x4_1
                                  replace p11 := eq_true p11
                                  replace q11 := eq_true q11
                                  go_wp2_with (first | ((with_reducible refine gate_callee (f := 48) rfl ?_); refine goesL_ (some 28) rfl rfl Tryd.func48 (by kernel_rfl) rfl #[.string (a0.extract 1 (x4_1 : Int).toNat)] rfl MP_ ?_; (with_reducible refine (warrantorref06_Parse.calls k1 (a0.extract 1 (x4_1 : Int).toNat) t555 true _ A15.out).mono ?_); rintro e w' ⟨rfl, ⟨nd, rfl⟩⟩; refine ⟨_, rfl, ?_⟩; (try (rw [drewN_self wr]; generalize hq_ : World.drewN wr _ = wr; have n0_ : Aside0 (wr.heap[gb552]? = some (.cells #[.int .i64 x553000_1, .int .i64 x553001_1] 23 (0, 0))) := ⟨by rw [← hq_]; exact (bk_ BK552.out)⟩; have n1_ : Aside0 (Below w.heap.size w wr) := ⟨by rw [← hq_]; exact HB_⟩; clear BK552 HB hq_; have BK552 := n0_; have HB := n1_; clear n0_ n1_)); (try clear A15)) | ((with_reducible refine gate_callee (f := 48) rfl ?_); refine goesL_ (some 46) rfl rfl Tryd.func48 (by kernel_rfl) rfl #[.string (a0.extract ((ji18) : Int).toNat ((wrap64 ((a0.size : Int) - 1)) : Int).toNat)] rfl (by (try simp only [List.map_toArray, List.map_cons, List.map_nil]); first | done | (simp only [hji18]; rfl) | rfl | (simp only [List.length_drop, List.length_take]; rfl)) ?_; (with_reducible refine (warrantorref06_Parse.calls k1 (a0.extract ((ji18) : Int).toNat ((wrap64 ((a0.size : Int) - 1)) : Int).toNat) t557 true _ A22.out).mono ?_); rintro e w' ⟨rfl, ⟨nd, rfl⟩⟩; refine ⟨_, rfl, ?_⟩; (try (rw [drewN_self wr]; generalize hq_ : World.drewN wr _ = wr; have n0_ : Aside0 (wr.heap[gb552]? = some (.cells #[.int .i64 x553000_1, .int .i64 x553001_1] 23 (0, 0))) := ⟨by rw [← hq_]; exact (bk_ BK552.out)⟩; have n1_ : Aside0 (Below w.heap.size w wr) := ⟨by rw [← hq_]; exact HB_⟩; clear BK552 HB hq_; have BK552 := n0_; have HB := n1_; clear n0_ n1_))) | ((with_reducible refine gate_dst (N := 9) rfl ?_); refine box_event ?hg (N := 9) ?hd (cs := #[.int .i64 0, .int .i64 0]) (t := 23) ?hr ?_; (case hd => rfl); (case hg => rfl); (case hr => first | (go_simp; done) | (go_simp; rfl)); intro gb559 hg w27 hbox hb; have n0_ := Aside0.mk (blk_below (g := gb552) (o := .cells #[.int .i64 x553000_1, .int .i64 x553001_1] 23 (0, 0)) (bk_ BK552.out) hb); have n1_ := Aside0.mk (below_step HB_ hb); have n2_ := Aside0.mk (hbox); have n3_ := Aside0.mk ((by rw [hg]; exact (below_size HB_) : w.heap.size ≤ gb559)); have n4_ := Aside0.mk ((by rw [hg]; exact (below_size HB_) : w.heap.size ≤ gb559)); have n5_ := Aside0.mk ((by rw [hg]; exact Nat.ne_of_lt (blk_lt (g := gb552) (o := .cells #[.int .i64 x553000_1, .int .i64 x553001_1] 23 (0, 0)) (bk_ BK552.out)) : gb552 ≠ gb559)); have n6_ := Aside0.mk ((by rw [hg]; exact Nat.ne_of_gt (blk_lt (g := gb552) (o := .cells #[.int .i64 x553000_1, .int .i64 x553001_1] 23 (0, 0)) (bk_ BK552.out)) : gb559 ≠ gb552)); clear BK552; clear HB; have BK552 := n0_; have HB := n1_; have BK559 := n2_; have GW559 := n3_; have GE559 := n4_; have NB552_559 := n5_; have NB559_552 := n6_; clear n0_ n1_ n2_ n3_ n4_ n5_ n6_; clear hb hbox hg; have hnb28 := NB559_552.out; have hnc28 := NB552_559.out; have hcz29_0 : w27.cell? ⟨gb559, 0, none⟩ = some (.int .i64 0) := (blk_cell BK559.out 0).trans rfl; have hcz29_1 : w27.cell? ⟨gb559, 1, none⟩ = some (.int .i64 0) := (blk_cell BK559.out 1).trans rfl; have hfz29_0 := blk_frozen BK559.out 0; have hfz29_1 := blk_frozen BK559.out 1) | (go_at_call 37; (with_reducible refine (warrantorref07_Show.calls k1 t555 t557 t560 _ A25.out).mono ?_); rintro e w30 ⟨rfl, hb⟩; have n0_ := Aside0.mk (blk_below (g := gb552) (o := .cells #[.int .i64 x553000_1, .int .i64 x553001_1] 23 (0, 0)) (bk2_ BK552.out) hb); have n1_ := Aside0.mk (blk_below (g := gb559) (o := .cells #[.int .i64 t555, .int .i64 t557] 23 (0, 0)) (bk2_ BK559.out) hb); have n2_ := Aside0.mk (below_step HB_ hb); clear BK552; clear BK559; clear HB; have BK552 := n0_; have BK559 := n1_; have HB := n2_; clear n0_ n1_ n2_; (try clear hb); (try clear hb2); (try clear hk); (try clear hi); have hcz31_0 : w30.cell? ⟨gb559, 0, none⟩ = some (.int .i64 t555) := (blk_cell BK559.out 0).trans rfl; have hcz31_1 : w30.cell? ⟨gb559, 1, none⟩ = some (.int .i64 t557) := (blk_cell BK559.out 1).trans rfl; have hfz31_0 := blk_frozen BK559.out 0; have hfz31_1 := blk_frozen BK559.out 1; have hcz32_0 : w30.cell? ⟨gb552, 0, none⟩ = some (.int .i64 x553000_1) := (blk_cell BK552.out 0).trans rfl; have hcz32_1 : w30.cell? ⟨gb552, 1, none⟩ = some (.int .i64 x553001_1) := (blk_cell BK552.out 1).trans rfl; have hfz32_0 := blk_frozen BK552.out 0; have hfz32_1 := blk_frozen BK552.out 1))
                                  refine bodyPost_ret (results_ct rfl _ _ gb552 23 #[.int .i64 t555, .int .i64 t557] (0, 0) _ rfl (bk2_ BK552.out) Tryd.underlying23 rfl (by kernel_rfl)) rfl ?_
                                  exact ⟨by first | rfl | (simp [errW_none, errW_some] <;> rfl) | (simp only [← hji18]; first | rfl | (simp [errW_none, errW_some] <;> rfl)) | (simp [*, errW_none, errW_some] <;> rfl), by repeat (first | (with_reducible first | exact HB.out | apply below_alloc | apply pw_below_drewN | apply below_drew1 | refine below_set ?_ GE552.out | refine below_set ?_ GE559.out) | exact HB.out)⟩
                                · rw [if_neg c26] at H
                                  have c26b0 : (t560.toList == a0.toList) = false := beq_eq_false_iff_ne.mpr c26
                                  have c26b1 : (t560.toList != a0.toList) = true := bne_iff_ne.mpr c26
                                  simp only [Option.some.injEq, Prod.mk.injEq] at H
                                  obtain ⟨rfl, rfl, rfl⟩ := H
                                  have p11 : 0 ≤ (x4_1 : Int) := of_decide_eq_true (by first | (with_reducible assumption) | assumption)
                                  have q11 : x4_1 < (a0.size : Int) := of_decide_eq_true (by first | (with_reducible assumption) | assumption)
                                  have hx11 := bt_at a0 x4_1
                                  replace p11 := eq_true p11
                                  replace q11 := eq_true q11
                                  go_wp2_with (first | ((with_reducible refine gate_callee (f := 48) rfl ?_); refine goesL_ (some 28) rfl rfl Tryd.func48 (by kernel_rfl) rfl #[.string (a0.extract 1 (x4_1 : Int).toNat)] rfl MP_ ?_; (with_reducible refine (warrantorref06_Parse.calls k1 (a0.extract 1 (x4_1 : Int).toNat) t555 true _ A15.out).mono ?_); rintro e w' ⟨rfl, ⟨nd, rfl⟩⟩; refine ⟨_, rfl, ?_⟩; (try (rw [drewN_self wr]; generalize hq_ : World.drewN wr _ = wr; have n0_ : Aside0 (wr.heap[gb552]? = some (.cells #[.int .i64 x553000_1, .int .i64 x553001_1] 23 (0, 0))) := ⟨by rw [← hq_]; exact (bk_ BK552.out)⟩; have n1_ : Aside0 (Below w.heap.size w wr) := ⟨by rw [← hq_]; exact HB_⟩; clear BK552 HB hq_; have BK552 := n0_; have HB := n1_; clear n0_ n1_)); (try clear A15)) | ((with_reducible refine gate_callee (f := 48) rfl ?_); refine goesL_ (some 46) rfl rfl Tryd.func48 (by kernel_rfl) rfl #[.string (a0.extract ((ji18) : Int).toNat ((wrap64 ((a0.size : Int) - 1)) : Int).toNat)] rfl (by (try simp only [List.map_toArray, List.map_cons, List.map_nil]); first | done | (simp only [hji18]; rfl) | rfl | (simp only [List.length_drop, List.length_take]; rfl)) ?_; (with_reducible refine (warrantorref06_Parse.calls k1 (a0.extract ((ji18) : Int).toNat ((wrap64 ((a0.size : Int) - 1)) : Int).toNat) t557 true _ A22.out).mono ?_); rintro e w' ⟨rfl, ⟨nd, rfl⟩⟩; refine ⟨_, rfl, ?_⟩; (try (rw [drewN_self wr]; generalize hq_ : World.drewN wr _ = wr; have n0_ : Aside0 (wr.heap[gb552]? = some (.cells #[.int .i64 x553000_1, .int .i64 x553001_1] 23 (0, 0))) := ⟨by rw [← hq_]; exact (bk_ BK552.out)⟩; have n1_ : Aside0 (Below w.heap.size w wr) := ⟨by rw [← hq_]; exact HB_⟩; clear BK552 HB hq_; have BK552 := n0_; have HB := n1_; clear n0_ n1_))) | ((with_reducible refine gate_dst (N := 9) rfl ?_); refine box_event ?hg (N := 9) ?hd (cs := #[.int .i64 0, .int .i64 0]) (t := 23) ?hr ?_; (case hd => rfl); (case hg => rfl); (case hr => first | (go_simp; done) | (go_simp; rfl)); intro gb559 hg w33 hbox hb; have n0_ := Aside0.mk (blk_below (g := gb552) (o := .cells #[.int .i64 x553000_1, .int .i64 x553001_1] 23 (0, 0)) (bk_ BK552.out) hb); have n1_ := Aside0.mk (below_step HB_ hb); have n2_ := Aside0.mk (hbox); have n3_ := Aside0.mk ((by rw [hg]; exact (below_size HB_) : w.heap.size ≤ gb559)); have n4_ := Aside0.mk ((by rw [hg]; exact (below_size HB_) : w.heap.size ≤ gb559)); have n5_ := Aside0.mk ((by rw [hg]; exact Nat.ne_of_lt (blk_lt (g := gb552) (o := .cells #[.int .i64 x553000_1, .int .i64 x553001_1] 23 (0, 0)) (bk_ BK552.out)) : gb552 ≠ gb559)); have n6_ := Aside0.mk ((by rw [hg]; exact Nat.ne_of_gt (blk_lt (g := gb552) (o := .cells #[.int .i64 x553000_1, .int .i64 x553001_1] 23 (0, 0)) (bk_ BK552.out)) : gb559 ≠ gb552)); clear BK552; clear HB; have BK552 := n0_; have HB := n1_; have BK559 := n2_; have GW559 := n3_; have GE559 := n4_; have NB552_559 := n5_; have NB559_552 := n6_; clear n0_ n1_ n2_ n3_ n4_ n5_ n6_; clear hb hbox hg; have hnb34 := NB559_552.out; have hnc34 := NB552_559.out; have hcz35_0 : w33.cell? ⟨gb559, 0, none⟩ = some (.int .i64 0) := (blk_cell BK559.out 0).trans rfl; have hcz35_1 : w33.cell? ⟨gb559, 1, none⟩ = some (.int .i64 0) := (blk_cell BK559.out 1).trans rfl; have hfz35_0 := blk_frozen BK559.out 0; have hfz35_1 := blk_frozen BK559.out 1) | (go_at_call 37; (with_reducible refine (warrantorref07_Show.calls k1 t555 t557 t560 _ A25.out).mono ?_); rintro e w36 ⟨rfl, hb⟩; have n0_ := Aside0.mk (blk_below (g := gb552) (o := .cells #[.int .i64 x553000_1, .int .i64 x553001_1] 23 (0, 0)) (bk2_ BK552.out) hb); have n1_ := Aside0.mk (blk_below (g := gb559) (o := .cells #[.int .i64 t555, .int .i64 t557] 23 (0, 0)) (bk2_ BK559.out) hb); have n2_ := Aside0.mk (below_step HB_ hb); clear BK552; clear BK559; clear HB; have BK552 := n0_; have BK559 := n1_; have HB := n2_; clear n0_ n1_ n2_; (try clear hb); (try clear hb2); (try clear hk); (try clear hi); have hcz37_0 : w36.cell? ⟨gb552, 0, none⟩ = some (.int .i64 x553000_1) := (blk_cell BK552.out 0).trans rfl; have hcz37_1 : w36.cell? ⟨gb552, 1, none⟩ = some (.int .i64 x553001_1) := (blk_cell BK552.out 1).trans rfl; have hfz37_0 := blk_frozen BK552.out 0; have hfz37_1 := blk_frozen BK552.out 1))
                                  refine bodyPost_ret (results_ct rfl _ _ gb552 23 #[.int .i64 0, .int .i64 0] (0, 0) _ rfl (bk2_ BK552.out) Tryd.underlying23 rfl (by kernel_rfl)) rfl ?_
                                  exact ⟨by first | rfl | (simp [errW_none, errW_some] <;> rfl) | (simp only [← hji18]; first | rfl | (simp [errW_none, errW_some] <;> rfl)) | (simp [*, errW_none, errW_some] <;> rfl), by repeat (first | (with_reducible first | exact HB.out | apply below_alloc | apply pw_below_drewN | apply below_drew1 | refine below_set ?_ GE552.out | refine below_set ?_ GE559.out) | exact HB.out)⟩
                              · replace c24 := Bool.eq_false_iff.mpr c24
                                subst c24
                                have H1 : (some (0, 0, false)) = some (r1, r2, r3) := by rw [if_neg (show ¬ (false = true) by decide)] at H; exact H
                                clear H
                                have H := H1
                                clear H1
                                simp only [Option.some.injEq, Prod.mk.injEq] at H
                                obtain ⟨rfl, rfl, rfl⟩ := H
                                have p11 : 0 ≤ (x4_1 : Int) := of_decide_eq_true (by first | (with_reducible assumption) | assumption)
                                have q11 : x4_1 < (a0.size : Int) := of_decide_eq_true (by first | (with_reducible assumption) | assumption)
                                have hx11 := bt_at a0 x4_1
                                replace p11 := eq_true p11
                                replace q11 := eq_true q11
                                go_wp2_with (first | ((with_reducible refine gate_callee (f := 48) rfl ?_); refine goesL_ (some 28) rfl rfl Tryd.func48 (by kernel_rfl) rfl #[.string (a0.extract 1 (x4_1 : Int).toNat)] rfl MP_ ?_; (with_reducible refine (warrantorref06_Parse.calls k1 (a0.extract 1 (x4_1 : Int).toNat) t555 true _ A15.out).mono ?_); rintro e w' ⟨rfl, ⟨nd, rfl⟩⟩; refine ⟨_, rfl, ?_⟩; (try (rw [drewN_self wr]; generalize hq_ : World.drewN wr _ = wr; have n0_ : Aside0 (wr.heap[gb552]? = some (.cells #[.int .i64 x553000_1, .int .i64 x553001_1] 23 (0, 0))) := ⟨by rw [← hq_]; exact (bk_ BK552.out)⟩; have n1_ : Aside0 (Below w.heap.size w wr) := ⟨by rw [← hq_]; exact HB_⟩; clear BK552 HB hq_; have BK552 := n0_; have HB := n1_; clear n0_ n1_)); (try clear A15)) | ((with_reducible refine gate_callee (f := 48) rfl ?_); refine goesL_ (some 46) rfl rfl Tryd.func48 (by kernel_rfl) rfl #[.string (a0.extract ((ji18) : Int).toNat ((wrap64 ((a0.size : Int) - 1)) : Int).toNat)] rfl (by (try simp only [List.map_toArray, List.map_cons, List.map_nil]); first | done | (simp only [hji18]; rfl) | rfl | (simp only [List.length_drop, List.length_take]; rfl)) ?_; (with_reducible refine (warrantorref06_Parse.calls k1 (a0.extract ((ji18) : Int).toNat ((wrap64 ((a0.size : Int) - 1)) : Int).toNat) t557 false _ A22.out).mono ?_); rintro e w' ⟨rfl, ⟨nd, rfl⟩⟩; refine ⟨_, rfl, ?_⟩; (try (rw [drewN_self wr]; generalize hq_ : World.drewN wr _ = wr; have n0_ : Aside0 (wr.heap[gb552]? = some (.cells #[.int .i64 x553000_1, .int .i64 x553001_1] 23 (0, 0))) := ⟨by rw [← hq_]; exact (bk_ BK552.out)⟩; have n1_ : Aside0 (Below w.heap.size w wr) := ⟨by rw [← hq_]; exact HB_⟩; clear BK552 HB hq_; have BK552 := n0_; have HB := n1_; clear n0_ n1_))) | ((with_reducible refine gate_dst (N := 9) rfl ?_); refine box_event ?hg (N := 9) ?hd (cs := #[.int .i64 0, .int .i64 0]) (t := 23) ?hr ?_; (case hd => rfl); (case hg => rfl); (case hr => first | (go_simp; done) | (go_simp; rfl)); intro gb559 hg w38 hbox hb; have n0_ := Aside0.mk (blk_below (g := gb552) (o := .cells #[.int .i64 x553000_1, .int .i64 x553001_1] 23 (0, 0)) (bk_ BK552.out) hb); have n1_ := Aside0.mk (below_step HB_ hb); have n2_ := Aside0.mk (hbox); have n3_ := Aside0.mk ((by rw [hg]; exact (below_size HB_) : w.heap.size ≤ gb559)); have n4_ := Aside0.mk ((by rw [hg]; exact (below_size HB_) : w.heap.size ≤ gb559)); have n5_ := Aside0.mk ((by rw [hg]; exact Nat.ne_of_lt (blk_lt (g := gb552) (o := .cells #[.int .i64 x553000_1, .int .i64 x553001_1] 23 (0, 0)) (bk_ BK552.out)) : gb552 ≠ gb559)); have n6_ := Aside0.mk ((by rw [hg]; exact Nat.ne_of_gt (blk_lt (g := gb552) (o := .cells #[.int .i64 x553000_1, .int .i64 x553001_1] 23 (0, 0)) (bk_ BK552.out)) : gb559 ≠ gb552)); clear BK552; clear HB; have BK552 := n0_; have HB := n1_; have BK559 := n2_; have GW559 := n3_; have GE559 := n4_; have NB552_559 := n5_; have NB559_552 := n6_; clear n0_ n1_ n2_ n3_ n4_ n5_ n6_; clear hb hbox hg; have hnb39 := NB559_552.out; have hnc39 := NB552_559.out; have hcz40_0 : w38.cell? ⟨gb559, 0, none⟩ = some (.int .i64 0) := (blk_cell BK559.out 0).trans rfl; have hcz40_1 : w38.cell? ⟨gb559, 1, none⟩ = some (.int .i64 0) := (blk_cell BK559.out 1).trans rfl; have hfz40_0 := blk_frozen BK559.out 0; have hfz40_1 := blk_frozen BK559.out 1; have hcz41_0 : w38.cell? ⟨gb552, 0, none⟩ = some (.int .i64 x553000_1) := (blk_cell BK552.out 0).trans rfl; have hcz41_1 : w38.cell? ⟨gb552, 1, none⟩ = some (.int .i64 x553001_1) := (blk_cell BK552.out 1).trans rfl; have hfz41_0 := blk_frozen BK552.out 0; have hfz41_1 := blk_frozen BK552.out 1))
                                refine bodyPost_ret (results_ct rfl _ _ gb552 23 #[.int .i64 0, .int .i64 0] (0, 0) _ rfl (bk2_ BK552.out) Tryd.underlying23 rfl (by kernel_rfl)) rfl ?_
                                exact ⟨by first | rfl | (simp [errW_none, errW_some] <;> rfl) | (simp only [← hji18]; first | rfl | (simp [errW_none, errW_some] <;> rfl)) | (simp [*, errW_none, errW_some] <;> rfl), by repeat (first | (with_reducible first | exact HB.out | apply below_alloc | apply pw_below_drewN | apply below_drew1 | refine below_set ?_ GE552.out | refine below_set ?_ GE559.out) | exact HB.out)⟩
                            · replace c23 := Bool.eq_false_iff.mpr c23
                              subst c23
                              have H1 : (some (0, 0, false)) = some (r1, r2, r3) := by rw [if_neg (show ¬ (false = true) by decide)] at H; exact H
                              clear H
                              have H := H1
                              clear H1
                              simp only [Option.some.injEq, Prod.mk.injEq] at H
                              obtain ⟨rfl, rfl, rfl⟩ := H
                              have p11 : 0 ≤ (x4_1 : Int) := of_decide_eq_true (by first | (with_reducible assumption) | assumption)
                              have q11 : x4_1 < (a0.size : Int) := of_decide_eq_true (by first | (with_reducible assumption) | assumption)
                              have hx11 := bt_at a0 x4_1
                              replace p11 := eq_true p11
                              replace q11 := eq_true q11
                              go_wp2_with (first | ((with_reducible refine gate_callee (f := 48) rfl ?_); refine goesL_ (some 28) rfl rfl Tryd.func48 (by kernel_rfl) rfl #[.string (a0.extract 1 (x4_1 : Int).toNat)] rfl MP_ ?_; (with_reducible refine (warrantorref06_Parse.calls k1 (a0.extract 1 (x4_1 : Int).toNat) t555 false _ A15.out).mono ?_); rintro e w' ⟨rfl, ⟨nd, rfl⟩⟩; refine ⟨_, rfl, ?_⟩; (try (rw [drewN_self wr]; generalize hq_ : World.drewN wr _ = wr; have n0_ : Aside0 (wr.heap[gb552]? = some (.cells #[.int .i64 x553000_1, .int .i64 x553001_1] 23 (0, 0))) := ⟨by rw [← hq_]; exact (bk_ BK552.out)⟩; have n1_ : Aside0 (Below w.heap.size w wr) := ⟨by rw [← hq_]; exact HB_⟩; clear BK552 HB hq_; have BK552 := n0_; have HB := n1_; clear n0_ n1_)); (try clear A15)) | ((with_reducible refine gate_callee (f := 48) rfl ?_); refine goesL_ (some 46) rfl rfl Tryd.func48 (by kernel_rfl) rfl #[.string (a0.extract ((ji18) : Int).toNat ((wrap64 ((a0.size : Int) - 1)) : Int).toNat)] rfl (by (try simp only [List.map_toArray, List.map_cons, List.map_nil]); first | done | (simp only [hji18]; rfl) | rfl | (simp only [List.length_drop, List.length_take]; rfl)) ?_; (with_reducible refine (warrantorref06_Parse.calls k1 (a0.extract ((ji18) : Int).toNat ((wrap64 ((a0.size : Int) - 1)) : Int).toNat) t557 t558 _ A22.out).mono ?_); rintro e w' ⟨rfl, ⟨nd, rfl⟩⟩; refine ⟨_, rfl, ?_⟩; (try (rw [drewN_self wr]; generalize hq_ : World.drewN wr _ = wr; have n0_ : Aside0 (wr.heap[gb552]? = some (.cells #[.int .i64 x553000_1, .int .i64 x553001_1] 23 (0, 0))) := ⟨by rw [← hq_]; exact (bk_ BK552.out)⟩; have n1_ : Aside0 (Below w.heap.size w wr) := ⟨by rw [← hq_]; exact HB_⟩; clear BK552 HB hq_; have BK552 := n0_; have HB := n1_; clear n0_ n1_))) | ((with_reducible refine gate_dst (N := 9) rfl ?_); refine box_event ?hg (N := 9) ?hd (cs := #[.int .i64 0, .int .i64 0]) (t := 23) ?hr ?_; (case hd => rfl); (case hg => rfl); (case hr => first | (go_simp; done) | (go_simp; rfl)); intro gb559 hg w42 hbox hb; have n0_ := Aside0.mk (blk_below (g := gb552) (o := .cells #[.int .i64 x553000_1, .int .i64 x553001_1] 23 (0, 0)) (bk_ BK552.out) hb); have n1_ := Aside0.mk (below_step HB_ hb); have n2_ := Aside0.mk (hbox); have n3_ := Aside0.mk ((by rw [hg]; exact (below_size HB_) : w.heap.size ≤ gb559)); have n4_ := Aside0.mk ((by rw [hg]; exact (below_size HB_) : w.heap.size ≤ gb559)); have n5_ := Aside0.mk ((by rw [hg]; exact Nat.ne_of_lt (blk_lt (g := gb552) (o := .cells #[.int .i64 x553000_1, .int .i64 x553001_1] 23 (0, 0)) (bk_ BK552.out)) : gb552 ≠ gb559)); have n6_ := Aside0.mk ((by rw [hg]; exact Nat.ne_of_gt (blk_lt (g := gb552) (o := .cells #[.int .i64 x553000_1, .int .i64 x553001_1] 23 (0, 0)) (bk_ BK552.out)) : gb559 ≠ gb552)); clear BK552; clear HB; have BK552 := n0_; have HB := n1_; have BK559 := n2_; have GW559 := n3_; have GE559 := n4_; have NB552_559 := n5_; have NB559_552 := n6_; clear n0_ n1_ n2_ n3_ n4_ n5_ n6_; clear hb hbox hg; have hnb43 := NB559_552.out; have hnc43 := NB552_559.out; have hcz44_0 : w42.cell? ⟨gb559, 0, none⟩ = some (.int .i64 0) := (blk_cell BK559.out 0).trans rfl; have hcz44_1 : w42.cell? ⟨gb559, 1, none⟩ = some (.int .i64 0) := (blk_cell BK559.out 1).trans rfl; have hfz44_0 := blk_frozen BK559.out 0; have hfz44_1 := blk_frozen BK559.out 1; have hcz45_0 : w42.cell? ⟨gb552, 0, none⟩ = some (.int .i64 x553000_1) := (blk_cell BK552.out 0).trans rfl; have hcz45_1 : w42.cell? ⟨gb552, 1, none⟩ = some (.int .i64 x553001_1) := (blk_cell BK552.out 1).trans rfl; have hfz45_0 := blk_frozen BK552.out 0; have hfz45_1 := blk_frozen BK552.out 1))
                              refine bodyPost_ret (results_ct rfl _ _ gb552 23 #[.int .i64 0, .int .i64 0] (0, 0) _ rfl (bk2_ BK552.out) Tryd.underlying23 rfl (by kernel_rfl)) rfl ?_
                              exact ⟨by first | rfl | (simp [errW_none, errW_some] <;> rfl) | (simp only [← hji18]; first | rfl | (simp [errW_none, errW_some] <;> rfl)) | (simp [*, errW_none, errW_some] <;> rfl), by repeat (first | (with_reducible first | exact HB.out | apply below_alloc | apply pw_below_drewN | apply below_drew1 | refine below_set ?_ GE552.out | refine below_set ?_ GE559.out) | exact HB.out)⟩
                          · rw [if_neg c21] at H
                            exact absurd H (by simp)
                        · rw [if_neg c20] at H
                          exact absurd H (by simp)
                      · rw [if_neg c19] at H
                        exact absurd H (by simp)
                  · rw [if_neg c14] at H
                    exact absurd H (by simp)
                · rw [if_neg c13] at H
                  exact absurd H (by simp)
              · rw [if_neg c12] at H
                have c12b0 : ((bt a0 x4_1) == 44) = false := beq_eq_false_iff_ne.mpr c12
                have c12b1 : ((bt a0 x4_1) != 44) = true := bne_iff_ne.mpr c12
                have H' := Aside0.mk H
                clear H
                have p11 : 0 ≤ (x4_1 : Int) := of_decide_eq_true (by first | (with_reducible assumption) | assumption)
                have q11 : x4_1 < (a0.size : Int) := of_decide_eq_true (by first | (with_reducible assumption) | assumption)
                have hx11 := bt_at a0 x4_1
                replace p11 := eq_true p11
                replace q11 := eq_true q11
                go_wp2
                go_roundg k1
                case measure => have := HK1.out; omega
                case rel => exact ⟨(wrap64 (x4_1 + 1)), (x553000_1), (x553001_1), (by first | rfl | (simp; done) | (simp [*]; done)), H', ⟨by have := HK1.out; omega⟩, ⟨by (with_reducible repeat (first | refine blk_drewN ?_ _ | refine blk_drew ?_ | refine blk_alloc ?_ _)); exact BK552.out⟩, ⟨by repeat (first | (with_reducible first | exact HB.out | apply below_alloc | apply pw_below_drewN | apply below_drew1 | refine below_set ?_ GE552.out) | exact HB.out)⟩⟩
            · rw [if_neg c10] at H
              exact absurd H (by simp)
          · rw [if_neg c9] at H
            exact absurd H (by simp)
        · rw [if_neg c8] at H
          have c8b0 : decide ((wrap64 (x4_1 + 1)) < (a0.size : Int)) = false := decide_eq_false c8
          have c8b0v : decide ((IntKind.i64.wrap (x4_1 + 1)) < (a0.size : Int)) = false := by (try simp only [i64_w]); exact c8b0
          clear c8
          simp only [Option.some.injEq, Prod.mk.injEq] at H
          obtain ⟨rfl, rfl, rfl⟩ := H
          have hcz46_0 : wr.cell? ⟨gb552, 0, none⟩ = some (.int .i64 x553000_1) := (blk_cell BK552.out 0).trans rfl
          have hcz46_1 : wr.cell? ⟨gb552, 1, none⟩ = some (.int .i64 x553001_1) := (blk_cell BK552.out 1).trans rfl
          have hfz46_0 := blk_frozen BK552.out 0
          have hfz46_1 := blk_frozen BK552.out 1
          go_wp2
          refine bodyPost_ret (results_ct rfl _ _ gb552 23 #[.int .i64 0, .int .i64 0] (0, 0) _ rfl (bk2_ BK552.out) Tryd.underlying23 rfl (by kernel_rfl)) rfl ?_
          exact ⟨by first | rfl | (simp [errW_none, errW_some] <;> rfl) | (simp [*, errW_none, errW_some] <;> rfl), by repeat (first | (with_reducible first | exact HB.out | apply below_alloc | apply pw_below_drewN | apply below_drew1 | refine below_set ?_ GE552.out) | exact HB.out)⟩

end Go.Proofs.YtkailfmehmgolaaDoor.R
