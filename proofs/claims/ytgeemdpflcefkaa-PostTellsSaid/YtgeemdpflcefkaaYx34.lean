-- WRITTEN BY this session's program wip/ext.py, in print.py's manner
import Derived.Test.YtgeemdpflcefkaaYx0
import Derived.Test.YtgeemdpflcefkaaYx1
import Derived.Test.YtgeemdpflcefkaaYx33
namespace Go.Proofs.Ytgeemdpflcefkaa.Y
open Go.RowKit Go.Proofs.YtgeemdpflcefkaaW.PrintWords Go.Proofs.YtgeemdpflcefkaaW.PrintLast Go.Proofs.YtgeemdpflcefkaaW.PrintMore
attribute [local go_sem] max2_int min2_int max_two min_two max_three min_three max_four min_four   -- for this text's walks alone
set_option linter.unusedVariables false
set_option linter.unusedSimpArgs false

attribute [local go_sem high] eqA26
/-! ### warrantorref11_Right: function 60 -/
mutual
def warrantorref11_Right.j0 : Nat → Int → Bool → Int → Int → Int → Int → Int → Option (Bool)
  | 0, _, _, _, _, _, _, _ => none
  | k + 1, x1, x13, x476000, x476001, x476002, x476003, x476004 => if x13 = true then (some false) else (if x476001 ≥ 1 then (if x476002 ≥ 1 then ((warrantorref06_Is.f x476003).bind fun t476 => (warrantorref11_Right.j1 k (decide (x476001 ≤ x1)) (decide (x476002 ≤ x1)) t476 x476000 x476001 x476002 x476003 x476004)) else ((warrantorref06_Is.f x476003).bind fun t477 => (warrantorref11_Right.j1 k (decide (x476001 ≤ x1)) false t477 x476000 x476001 x476002 x476003 x476004))) else (if x476002 ≥ 1 then ((warrantorref06_Is.f x476003).bind fun t478 => (warrantorref11_Right.j1 k false (decide (x476002 ≤ x1)) t478 x476000 x476001 x476002 x476003 x476004)) else ((warrantorref06_Is.f x476003).bind fun t479 => (warrantorref11_Right.j1 k false false t479 x476000 x476001 x476002 x476003 x476004))))
def warrantorref11_Right.j1 : Nat → Bool → Bool → Bool → Int → Int → Int → Int → Int → Option (Bool)
  | 0, _, _, _, _, _, _, _, _ => none
  | k + 1, x5, x6, x7, x476000, x476001, x476002, x476003, x476004 => if x476000 = 1 then (some (x476000 == 1 && (x476001 == 0 && (x476002 == 0 && (x476003 == 0 && (x476004 == 0)))))) else (if x476000 = 2 then (if x5 = true then (if x6 = true then (if x7 = true then (some (x476004 == 0)) else (some false)) else (if x476002 = 0 then (if x7 = true then (some (x476004 == 0)) else (some false)) else (some false))) else (some false)) else (if x476000 = 3 then (if x5 = true then (if x476002 = 0 then (if x7 = true then ((warrantorref06_Is.f x476004).bind fun t480 => (if t480 = true then (some (decide (x476003 ≤ x476004))) else (some false))) else (some false)) else (some false)) else (some false)) else (if x476000 = 4 then (if x5 = true then (if x6 = true then (if x476001 = x476002 then (some false) else (if x7 = true then (some (x476004 == 0)) else (some false))) else (if x476002 = 0 then (if x476001 = x476002 then (some false) else (if x7 = true then (some (x476004 == 0)) else (some false))) else (some false))) else (if x476001 = 0 then (if x6 = true then (if x476001 = x476002 then (some false) else (if x7 = true then (some (x476004 == 0)) else (some false))) else (if x476002 = 0 then (if x476001 = x476002 then (some false) else (if x7 = true then (some (x476004 == 0)) else (some false))) else (some false))) else (some false))) else (if x476000 = 5 then (if x5 = true then (if x6 = true then (if x476001 = x476002 then (some false) else (if x7 = true then (some (x476004 == 0)) else (some false))) else (if x476002 = 0 then (if x476001 = x476002 then (some false) else (if x7 = true then (some (x476004 == 0)) else (some false))) else (some false))) else (if x476001 = 0 then (if x6 = true then (if x476001 = x476002 then (some false) else (if x7 = true then (some (x476004 == 0)) else (some false))) else (if x476002 = 0 then (if x476001 = x476002 then (some false) else (if x7 = true then (some (x476004 == 0)) else (some false))) else (some false))) else (some false))) else (some false)))))
end
def warrantorref11_Right.f (k : Nat) (a0_0 : Int) (a0_1 : Int) (a0_2 : Int) (a0_3 : Int) (a0_4 : Int) (a1 : Int) : Option (Bool) := if a1 < 0 then (warrantorref11_Right.j0 k a1 true a0_0 a0_1 a0_2 a0_3 a0_4) else (warrantorref11_Right.j0 k a1 (decide (a1 > 8)) a0_0 a0_1 a0_2 a0_3 a0_4)
theorem warrantorref11_Right.mono_l : ∀ k, (∀ y0 y1 y2 y3 y4 y5 y6, LeO (warrantorref11_Right.j0 k y0 y1 y2 y3 y4 y5 y6) (warrantorref11_Right.j0 (k + 1) y0 y1 y2 y3 y4 y5 y6)) ∧ (∀ y0 y1 y2 y3 y4 y5 y6 y7, LeO (warrantorref11_Right.j1 k y0 y1 y2 y3 y4 y5 y6 y7) (warrantorref11_Right.j1 (k + 1) y0 y1 y2 y3 y4 y5 y6 y7))
  | 0 => ⟨fun _ _ _ _ _ _ _ r h => by simp [warrantorref11_Right.j0] at h, fun _ _ _ _ _ _ _ _ r h => by simp [warrantorref11_Right.j1] at h⟩
  | k + 1 => by
    obtain ⟨ih0, ih1⟩ := warrantorref11_Right.mono_l k
    refine ⟨?_, ?_⟩
    · intro y0 y1 y2 y3 y4 y5 y6
      unfold warrantorref11_Right.j0
      repeat' first
      | (with_reducible exact ih0 _ _ _ _ _ _ _)
      | (with_reducible exact ih1 _ _ _ _ _ _ _ _)
      | (with_reducible exact LeO.refl _)
      | (with_reducible exact LeO.none _)
      | (with_reducible refine LeO.ite ?_ ?_)
      | (with_reducible refine LeO.bind ?_ (fun _ => ?_))
      | exact ih0 _ _ _ _ _ _ _
      | exact ih1 _ _ _ _ _ _ _ _
      | exact LeO.none _
      | refine LeO.ite ?_ ?_
      | refine LeO.bind ?_ (fun _ => ?_)
    · intro y0 y1 y2 y3 y4 y5 y6 y7
      unfold warrantorref11_Right.j1
      repeat' first
      | (with_reducible exact ih0 _ _ _ _ _ _ _)
      | (with_reducible exact ih1 _ _ _ _ _ _ _ _)
      | (with_reducible exact LeO.refl _)
      | (with_reducible exact LeO.none _)
      | (with_reducible refine LeO.ite ?_ ?_)
      | (with_reducible refine LeO.bind ?_ (fun _ => ?_))
      | exact ih0 _ _ _ _ _ _ _
      | exact ih1 _ _ _ _ _ _ _ _
      | exact LeO.none _
      | refine LeO.ite ?_ ?_
      | refine LeO.bind ?_ (fun _ => ?_)
theorem warrantorref11_Right.mono : ∀ a0 a1 a2 a3 a4 a5 k, LeO (warrantorref11_Right.f k a0 a1 a2 a3 a4 a5) (warrantorref11_Right.f (k + 1) a0 a1 a2 a3 a4 a5) := by
  intro a0 a1 a2 a3 a4 a5 k
  obtain ⟨ih0, ih1⟩ := warrantorref11_Right.mono_l k
  unfold warrantorref11_Right.f
  repeat' first
      | (with_reducible exact ih0 _ _ _ _ _ _ _)
      | (with_reducible exact ih1 _ _ _ _ _ _ _ _)
      | (with_reducible exact LeO.refl _)
      | (with_reducible exact LeO.none _)
      | (with_reducible refine LeO.ite ?_ ?_)
      | (with_reducible refine LeO.bind ?_ (fun _ => ?_))
      | exact ih0 _ _ _ _ _ _ _
      | exact ih1 _ _ _ _ _ _ _ _
      | exact LeO.none _
      | refine LeO.ite ?_ ?_
      | refine LeO.bind ?_ (fun _ => ?_)
set_option maxHeartbeats 8000000 in
set_option maxRecDepth 100000 in
theorem warrantorref11_Right.calls (k : Nat) (a0_0 : Int) (a0_1 : Int) (a0_2 : Int) (a0_3 : Int) (a0_4 : Int) (a1 : Int) (r : Bool) (w : World) (h : warrantorref11_Right.f k a0_0 a0_1 a0_2 a0_3 a0_4 a1 = some r) :
    Calls Try.prog 60 #[.agg #[.int .i64 a0_0, .int .i64 a0_1, .int .i64 a0_2, .int .i64 a0_3, .int .i64 a0_4], .int .i64 a1] w fun e w' => e = .returned (.bool r) ∧ Below w.heap.size w w' := by
  have hu26 := Try.underlying26
  have HB := Aside0.mk (Below.refl w.heap.size w)
  have H : (if a1 < 0 then (warrantorref11_Right.j0 k a1 true a0_0 a0_1 a0_2 a0_3 a0_4) else (warrantorref11_Right.j0 k a1 (decide (a1 > 8)) a0_0 a0_1 a0_2 a0_3 a0_4)) = some r := h
  clear h
  have HC3 := Aside0.mk H
  clear H
  go_enter Try.func60, Try.ntmps60
  go_upto_region 1 with (first | ((with_reducible refine gate_dst (N := 2) rfl ?_); refine bx_ (N := 2) (cs := #[.int .i64 a0_0, .int .i64 a0_1, .int .i64 a0_2, .int .i64 a0_3, .int .i64 a0_4]) (t := 26) ?_; intro gb475 hg w4 hbox hb; have n_ := a_ (bs_ HB hb) (a_ (Aside0.mk hbox) (a_ (gs_ HB hg) (gs_ HB hg))); clear HB; obtain ⟨HB, BK475, GW475, GE475⟩ := n_; clear hb hbox hg))
  repeat (go_quiet (first | ((with_reducible refine gate_dst (N := 2) rfl ?_); refine bx_ (N := 2) (cs := #[.int .i64 a0_0, .int .i64 a0_1, .int .i64 a0_2, .int .i64 a0_3, .int .i64 a0_4]) (t := 26) ?_; intro gb475 hg w4 hbox hb; have n_ := a_ (bs_ HB hb) (a_ (Aside0.mk hbox) (a_ (gs_ HB hg) (gs_ HB hg))); clear HB; obtain ⟨HB, BK475, GW475, GE475⟩ := n_; clear hb hbox hg)); go_upto_region 1 with (first | ((with_reducible refine gate_dst (N := 2) rfl ?_); refine bx_ (N := 2) (cs := #[.int .i64 a0_0, .int .i64 a0_1, .int .i64 a0_2, .int .i64 a0_3, .int .i64 a0_4]) (t := 26) ?_; intro gb475 hg w4 hbox hb; have n_ := a_ (bs_ HB hb) (a_ (Aside0.mk hbox) (a_ (gs_ HB hg) (gs_ HB hg))); clear HB; obtain ⟨HB, BK475, GW475, GE475⟩ := n_; clear hb hbox hg)))
  (try simp only [Act.put, List.setIfInBounds_toArray, List.set_cons_zero, List.set_cons_succ])
  go_cut [13] (fun v13 wc => ∃ (kq : Nat) (x13_2 : Bool), v13 = .bool x13_2 ∧ Aside0 (warrantorref11_Right.j0 kq a1 x13_2 a0_0 a0_1 a0_2 a0_3 a0_4 = some r) ∧ Aside0 (kq ≤ k) ∧ Aside0 (wc.heap[gb475]? = some (.cells #[.int .i64 a0_0, .int .i64 a0_1, .int .i64 a0_2, .int .i64 a0_3, .int .i64 a0_4] 26 (0, 0))) ∧ Aside0 (Below w.heap.size w wc))
  case first =>
    have H := HC3.out
    clear HC3
    by_cases c5 : a1 < 0
    rotate_left
    · rw [if_neg c5] at H
      have c5b0 : decide (a1 < 0) = false := decide_eq_false c5
      clear c5
      (first | rw [c5b0] | (simp only [i64_w, i32_w]; rw [c5b0]) | skip)
      have H' := Aside0.mk H
      clear H
      go_wp2
      repeat (go_quiet (fail); try go_wp2)
      go_meet
      case rel => exact ⟨_, (decide (a1 > 8)), (by first | rfl | (simp; done) | (simp [*]; done)), H', ⟨by first | omega | exact Nat.le_refl _⟩, ⟨by (with_reducible repeat (first | refine blk_drewN ?_ _ | refine blk_drew ?_ | refine blk_alloc ?_ _)); exact BK475.out⟩, ⟨HB_⟩⟩
    rw [if_pos c5] at H
    have c5b0 : decide (a1 < 0) = true := decide_eq_true c5
    clear c5
    (first | rw [c5b0] | (simp only [i64_w, i32_w]; rw [c5b0]) | skip)
    have H' := Aside0.mk H
    clear H
    go_wp2
    repeat (go_quiet (fail); try go_wp2)
    go_meet
    case rel => exact ⟨_, (true), (by first | rfl | (simp; done) | (simp [*]; done)), H', ⟨by first | omega | exact Nat.le_refl _⟩, ⟨by (with_reducible repeat (first | refine blk_drewN ?_ _ | refine blk_drew ?_ | refine blk_alloc ?_ _)); exact BK475.out⟩, ⟨HB_⟩⟩
  case rest =>
    clear HC3
    try clear p2
    try clear c5
    try clear c5b0
    obtain ⟨kq, x13_2, rfl, HA, HJ2, BK475, HB⟩ := hcut
    cases kq with
    | zero => exact absurd HA.out (by simp [warrantorref11_Right.j0])
    | succ kj2 =>
      have H := HA.out
      clear HA
      simp only [warrantorref11_Right.j0] at H
      by_cases c6 : x13_2 = true
      · subst c6
        replace H := ps1_ H
        obtain rfl := Option.some.inj H
        go_wp2
        repeat (go_quiet (fail); try go_wp2)
        go_ret
        exact ⟨by first | rfl | (simp [errW_none, errW_some] <;> rfl) | (simp [*, errW_none, errW_some] <;> rfl), HB_⟩
      replace c6 := Bool.eq_false_iff.mpr c6
      subst c6
      replace H := ng1_ H
      have HC7 := Aside0.mk H
      clear H
      go_upto_region 3 with (fail)
      repeat (go_quiet (fail); go_upto_region 3 with (fail))
      go_cut [5, 6, 7] (fun v5 v6 v7 wc => ∃ (kq : Nat) (x5_6 : Bool) (x6_6 : Bool) (x7_6 : Bool), v5 = .bool x5_6 ∧ v6 = .bool x6_6 ∧ v7 = .bool x7_6 ∧ Aside0 (warrantorref11_Right.j1 kq x5_6 x6_6 x7_6 a0_0 a0_1 a0_2 a0_3 a0_4 = some r) ∧ Aside0 (kq ≤ kj2) ∧ Aside0 (wc.heap[gb475]? = some (.cells #[.int .i64 a0_0, .int .i64 a0_1, .int .i64 a0_2, .int .i64 a0_3, .int .i64 a0_4] 26 (0, 0))) ∧ Aside0 (Below w.heap.size w wc))
      case first =>
        have H := HC7.out
        clear HC7
        by_cases c8 : a0_1 ≥ 1
        rotate_left
        · rw [if_neg c8] at H
          have c8b0 : decide (1 ≤ a0_1) = false := decide_eq_false c8
          clear c8
          (first | rw [c8b0] | (simp only [i64_w, i32_w]; rw [c8b0]) | skip)
          by_cases c14 : a0_2 ≥ 1
          rotate_left
          · rw [if_neg c14] at H
            have c14b0 : decide (1 ≤ a0_2) = false := decide_eq_false c14
            clear c14
            replace H := bd_ H
            obtain ⟨t479, A17, H⟩ := H
            (try dsimp only at H)
            have H' := Aside0.mk H
            clear H
            have hcz18_0 : wc.cell? ⟨gb475, 0, none⟩ = some (.int .i64 a0_0) := (blk_cell BK475.out 0).trans rfl
            have hcz18_1 : wc.cell? ⟨gb475, 1, none⟩ = some (.int .i64 a0_1) := (blk_cell BK475.out 1).trans rfl
            have hcz18_2 : wc.cell? ⟨gb475, 2, none⟩ = some (.int .i64 a0_2) := (blk_cell BK475.out 2).trans rfl
            have hcz18_3 : wc.cell? ⟨gb475, 3, none⟩ = some (.int .i64 a0_3) := (blk_cell BK475.out 3).trans rfl
            have hcz18_4 : wc.cell? ⟨gb475, 4, none⟩ = some (.int .i64 a0_4) := (blk_cell BK475.out 4).trans rfl
            have hfz18_0 := blk_frozen BK475.out 0
            have hfz18_1 := blk_frozen BK475.out 1
            have hfz18_2 := blk_frozen BK475.out 2
            have hfz18_3 := blk_frozen BK475.out 3
            have hfz18_4 := blk_frozen BK475.out 4
            go_wp2_with (first | (go_at_call 43; (with_reducible refine (warrantorref06_Is.calls a0_3 t479 _ A17.out).mono ?_); rintro e w' ⟨rfl, ⟨nd, rfl⟩⟩; (try first | exact ⟨rfl, _, World.drewN_drewN _ _ _⟩ | exact ⟨rfl, _, Eq.trans (World.drewN_drewN _ _ _) (congrArg (World.drewN _) (Nat.add_assoc _ _ _))⟩)))
            repeat (go_quiet (first | (go_at_call 43; (with_reducible refine (warrantorref06_Is.calls a0_3 t479 _ A17.out).mono ?_); rintro e w' ⟨rfl, ⟨nd, rfl⟩⟩; (try first | exact ⟨rfl, _, World.drewN_drewN _ _ _⟩ | exact ⟨rfl, _, Eq.trans (World.drewN_drewN _ _ _) (congrArg (World.drewN _) (Nat.add_assoc _ _ _))⟩))); try go_wp2_with (first | (go_at_call 43; (with_reducible refine (warrantorref06_Is.calls a0_3 t479 _ A17.out).mono ?_); rintro e w' ⟨rfl, ⟨nd, rfl⟩⟩; (try first | exact ⟨rfl, _, World.drewN_drewN _ _ _⟩ | exact ⟨rfl, _, Eq.trans (World.drewN_drewN _ _ _) (congrArg (World.drewN _) (Nat.add_assoc _ _ _))⟩))))
            go_meet
            case rel => exact ⟨_, (false), (false), (t479), (by first | rfl | (simp; done) | (simp [*]; done)), (by first | rfl | (simp; done) | (simp [*]; done)), (by first | rfl | (simp; done) | (simp [*]; done)), H', ⟨by have := HJ2.out; first | omega | exact Nat.le_refl _⟩, ⟨by (with_reducible repeat (first | refine blk_drewN ?_ _ | refine blk_drew ?_ | refine blk_alloc ?_ _)); exact BK475.out⟩, ⟨HB_⟩⟩
          rw [if_pos c14] at H
          have c14b0 : decide (1 ≤ a0_2) = true := decide_eq_true c14
          clear c14
          replace H := bd_ H
          obtain ⟨t478, A15, H⟩ := H
          (try dsimp only at H)
          have H' := Aside0.mk H
          clear H
          have hcz16_0 : wc.cell? ⟨gb475, 0, none⟩ = some (.int .i64 a0_0) := (blk_cell BK475.out 0).trans rfl
          have hcz16_1 : wc.cell? ⟨gb475, 1, none⟩ = some (.int .i64 a0_1) := (blk_cell BK475.out 1).trans rfl
          have hcz16_2 : wc.cell? ⟨gb475, 2, none⟩ = some (.int .i64 a0_2) := (blk_cell BK475.out 2).trans rfl
          have hcz16_3 : wc.cell? ⟨gb475, 3, none⟩ = some (.int .i64 a0_3) := (blk_cell BK475.out 3).trans rfl
          have hcz16_4 : wc.cell? ⟨gb475, 4, none⟩ = some (.int .i64 a0_4) := (blk_cell BK475.out 4).trans rfl
          have hfz16_0 := blk_frozen BK475.out 0
          have hfz16_1 := blk_frozen BK475.out 1
          have hfz16_2 := blk_frozen BK475.out 2
          have hfz16_3 := blk_frozen BK475.out 3
          have hfz16_4 := blk_frozen BK475.out 4
          go_wp2_with (first | (go_at_call 43; (with_reducible refine (warrantorref06_Is.calls a0_3 t478 _ A15.out).mono ?_); rintro e w' ⟨rfl, ⟨nd, rfl⟩⟩; (try first | exact ⟨rfl, _, World.drewN_drewN _ _ _⟩ | exact ⟨rfl, _, Eq.trans (World.drewN_drewN _ _ _) (congrArg (World.drewN _) (Nat.add_assoc _ _ _))⟩)))
          repeat (go_quiet (first | (go_at_call 43; (with_reducible refine (warrantorref06_Is.calls a0_3 t478 _ A15.out).mono ?_); rintro e w' ⟨rfl, ⟨nd, rfl⟩⟩; (try first | exact ⟨rfl, _, World.drewN_drewN _ _ _⟩ | exact ⟨rfl, _, Eq.trans (World.drewN_drewN _ _ _) (congrArg (World.drewN _) (Nat.add_assoc _ _ _))⟩))); try go_wp2_with (first | (go_at_call 43; (with_reducible refine (warrantorref06_Is.calls a0_3 t478 _ A15.out).mono ?_); rintro e w' ⟨rfl, ⟨nd, rfl⟩⟩; (try first | exact ⟨rfl, _, World.drewN_drewN _ _ _⟩ | exact ⟨rfl, _, Eq.trans (World.drewN_drewN _ _ _) (congrArg (World.drewN _) (Nat.add_assoc _ _ _))⟩))))
          go_meet
          case rel => exact ⟨_, (false), (decide (a0_2 ≤ a1)), (t478), (by first | rfl | (simp; done) | (simp [*]; done)), (by first | rfl | (simp; done) | (simp [*]; done)), (by first | rfl | (simp; done) | (simp [*]; done)), H', ⟨by have := HJ2.out; first | omega | exact Nat.le_refl _⟩, ⟨by (with_reducible repeat (first | refine blk_drewN ?_ _ | refine blk_drew ?_ | refine blk_alloc ?_ _)); exact BK475.out⟩, ⟨HB_⟩⟩
        rw [if_pos c8] at H
        have c8b0 : decide (1 ≤ a0_1) = true := decide_eq_true c8
        clear c8
        (first | rw [c8b0] | (simp only [i64_w, i32_w]; rw [c8b0]) | skip)
        by_cases c9 : a0_2 ≥ 1
        rotate_left
        · rw [if_neg c9] at H
          have c9b0 : decide (1 ≤ a0_2) = false := decide_eq_false c9
          clear c9
          replace H := bd_ H
          obtain ⟨t477, A12, H⟩ := H
          (try dsimp only at H)
          have H' := Aside0.mk H
          clear H
          have hcz13_0 : wc.cell? ⟨gb475, 0, none⟩ = some (.int .i64 a0_0) := (blk_cell BK475.out 0).trans rfl
          have hcz13_1 : wc.cell? ⟨gb475, 1, none⟩ = some (.int .i64 a0_1) := (blk_cell BK475.out 1).trans rfl
          have hcz13_2 : wc.cell? ⟨gb475, 2, none⟩ = some (.int .i64 a0_2) := (blk_cell BK475.out 2).trans rfl
          have hcz13_3 : wc.cell? ⟨gb475, 3, none⟩ = some (.int .i64 a0_3) := (blk_cell BK475.out 3).trans rfl
          have hcz13_4 : wc.cell? ⟨gb475, 4, none⟩ = some (.int .i64 a0_4) := (blk_cell BK475.out 4).trans rfl
          have hfz13_0 := blk_frozen BK475.out 0
          have hfz13_1 := blk_frozen BK475.out 1
          have hfz13_2 := blk_frozen BK475.out 2
          have hfz13_3 := blk_frozen BK475.out 3
          have hfz13_4 := blk_frozen BK475.out 4
          go_wp2_with (first | (go_at_call 43; (with_reducible refine (warrantorref06_Is.calls a0_3 t477 _ A12.out).mono ?_); rintro e w' ⟨rfl, ⟨nd, rfl⟩⟩; (try first | exact ⟨rfl, _, World.drewN_drewN _ _ _⟩ | exact ⟨rfl, _, Eq.trans (World.drewN_drewN _ _ _) (congrArg (World.drewN _) (Nat.add_assoc _ _ _))⟩)))
          repeat (go_quiet (first | (go_at_call 43; (with_reducible refine (warrantorref06_Is.calls a0_3 t477 _ A12.out).mono ?_); rintro e w' ⟨rfl, ⟨nd, rfl⟩⟩; (try first | exact ⟨rfl, _, World.drewN_drewN _ _ _⟩ | exact ⟨rfl, _, Eq.trans (World.drewN_drewN _ _ _) (congrArg (World.drewN _) (Nat.add_assoc _ _ _))⟩))); try go_wp2_with (first | (go_at_call 43; (with_reducible refine (warrantorref06_Is.calls a0_3 t477 _ A12.out).mono ?_); rintro e w' ⟨rfl, ⟨nd, rfl⟩⟩; (try first | exact ⟨rfl, _, World.drewN_drewN _ _ _⟩ | exact ⟨rfl, _, Eq.trans (World.drewN_drewN _ _ _) (congrArg (World.drewN _) (Nat.add_assoc _ _ _))⟩))))
          go_meet
          case rel => exact ⟨_, (decide (a0_1 ≤ a1)), (false), (t477), (by first | rfl | (simp; done) | (simp [*]; done)), (by first | rfl | (simp; done) | (simp [*]; done)), (by first | rfl | (simp; done) | (simp [*]; done)), H', ⟨by have := HJ2.out; first | omega | exact Nat.le_refl _⟩, ⟨by (with_reducible repeat (first | refine blk_drewN ?_ _ | refine blk_drew ?_ | refine blk_alloc ?_ _)); exact BK475.out⟩, ⟨HB_⟩⟩
        rw [if_pos c9] at H
        have c9b0 : decide (1 ≤ a0_2) = true := decide_eq_true c9
        clear c9
        replace H := bd_ H
        obtain ⟨t476, A10, H⟩ := H
        (try dsimp only at H)
        have H' := Aside0.mk H
        clear H
        have hcz11_0 : wc.cell? ⟨gb475, 0, none⟩ = some (.int .i64 a0_0) := (blk_cell BK475.out 0).trans rfl
        have hcz11_1 : wc.cell? ⟨gb475, 1, none⟩ = some (.int .i64 a0_1) := (blk_cell BK475.out 1).trans rfl
        have hcz11_2 : wc.cell? ⟨gb475, 2, none⟩ = some (.int .i64 a0_2) := (blk_cell BK475.out 2).trans rfl
        have hcz11_3 : wc.cell? ⟨gb475, 3, none⟩ = some (.int .i64 a0_3) := (blk_cell BK475.out 3).trans rfl
        have hcz11_4 : wc.cell? ⟨gb475, 4, none⟩ = some (.int .i64 a0_4) := (blk_cell BK475.out 4).trans rfl
        have hfz11_0 := blk_frozen BK475.out 0
        have hfz11_1 := blk_frozen BK475.out 1
        have hfz11_2 := blk_frozen BK475.out 2
        have hfz11_3 := blk_frozen BK475.out 3
        have hfz11_4 := blk_frozen BK475.out 4
        go_wp2_with (first | (go_at_call 43; (with_reducible refine (warrantorref06_Is.calls a0_3 t476 _ A10.out).mono ?_); rintro e w' ⟨rfl, ⟨nd, rfl⟩⟩; (try first | exact ⟨rfl, _, World.drewN_drewN _ _ _⟩ | exact ⟨rfl, _, Eq.trans (World.drewN_drewN _ _ _) (congrArg (World.drewN _) (Nat.add_assoc _ _ _))⟩)))
        repeat (go_quiet (first | (go_at_call 43; (with_reducible refine (warrantorref06_Is.calls a0_3 t476 _ A10.out).mono ?_); rintro e w' ⟨rfl, ⟨nd, rfl⟩⟩; (try first | exact ⟨rfl, _, World.drewN_drewN _ _ _⟩ | exact ⟨rfl, _, Eq.trans (World.drewN_drewN _ _ _) (congrArg (World.drewN _) (Nat.add_assoc _ _ _))⟩))); try go_wp2_with (first | (go_at_call 43; (with_reducible refine (warrantorref06_Is.calls a0_3 t476 _ A10.out).mono ?_); rintro e w' ⟨rfl, ⟨nd, rfl⟩⟩; (try first | exact ⟨rfl, _, World.drewN_drewN _ _ _⟩ | exact ⟨rfl, _, Eq.trans (World.drewN_drewN _ _ _) (congrArg (World.drewN _) (Nat.add_assoc _ _ _))⟩))))
        go_meet
        case rel => exact ⟨_, (decide (a0_1 ≤ a1)), (decide (a0_2 ≤ a1)), (t476), (by first | rfl | (simp; done) | (simp [*]; done)), (by first | rfl | (simp; done) | (simp [*]; done)), (by first | rfl | (simp; done) | (simp [*]; done)), H', ⟨by have := HJ2.out; first | omega | exact Nat.le_refl _⟩, ⟨by (with_reducible repeat (first | refine blk_drewN ?_ _ | refine blk_drew ?_ | refine blk_alloc ?_ _)); exact BK475.out⟩, ⟨HB_⟩⟩
      case rest =>
        clear HC7
        try clear c1
        try clear p2
        try clear c5
        try clear c5b0
        try clear c6
        try clear c8
        try clear c8b0
        try clear c9
        try clear c9b0
        try clear c14
        try clear c14b0
        try clear hcz11_0
        try clear hcz11_1
        try clear hcz11_2
        try clear hcz11_3
        try clear hcz11_4
        try clear hcz13_0
        try clear hcz13_1
        try clear hcz13_2
        try clear hcz13_3
        try clear hcz13_4
        try clear hcz16_0
        try clear hcz16_1
        try clear hcz16_2
        try clear hcz16_3
        try clear hcz16_4
        try clear hcz18_0
        try clear hcz18_1
        try clear hcz18_2
        try clear hcz18_3
        try clear hcz18_4
        try clear hfz11_0
        try clear hfz11_1
        try clear hfz11_2
        try clear hfz11_3
        try clear hfz11_4
        try clear hfz13_0
        try clear hfz13_1
        try clear hfz13_2
        try clear hfz13_3
        try clear hfz13_4
        try clear hfz16_0
        try clear hfz16_1
        try clear hfz16_2
        try clear hfz16_3
        try clear hfz16_4
        try clear hfz18_0
        try clear hfz18_1
        try clear hfz18_2
        try clear hfz18_3
        try clear hfz18_4
        try clear p2
        obtain ⟨kq, x5_6, x6_6, x7_6, rfl, rfl, rfl, HA, HJ6, BK475, HB⟩ := hcut
        cases kq with
        | zero => exact absurd HA.out (by simp [warrantorref11_Right.j1])
        | succ kj6 =>
          have H := HA.out
          clear HA
          simp only [warrantorref11_Right.j1] at H
          by_cases c19 : a0_0 = 1
          · rw [if_pos c19] at H
            have c19b0 : (a0_0 == 1) = true := beq_iff_eq.mpr c19
            have c19b1 : (a0_0 != 1) = false := bne_eq_false_iff_eq.mpr c19
            clear c19
            obtain rfl := Option.some.inj H
            have hcz20_0 : wc.cell? ⟨gb475, 0, none⟩ = some (.int .i64 a0_0) := (blk_cell BK475.out 0).trans rfl
            have hcz20_1 : wc.cell? ⟨gb475, 1, none⟩ = some (.int .i64 a0_1) := (blk_cell BK475.out 1).trans rfl
            have hcz20_2 : wc.cell? ⟨gb475, 2, none⟩ = some (.int .i64 a0_2) := (blk_cell BK475.out 2).trans rfl
            have hcz20_3 : wc.cell? ⟨gb475, 3, none⟩ = some (.int .i64 a0_3) := (blk_cell BK475.out 3).trans rfl
            have hcz20_4 : wc.cell? ⟨gb475, 4, none⟩ = some (.int .i64 a0_4) := (blk_cell BK475.out 4).trans rfl
            have hfz20_0 := blk_frozen BK475.out 0
            have hfz20_1 := blk_frozen BK475.out 1
            have hfz20_2 := blk_frozen BK475.out 2
            have hfz20_3 := blk_frozen BK475.out 3
            have hfz20_4 := blk_frozen BK475.out 4
            go_wp2
            repeat (go_quiet (fail); try go_wp2)
            go_ret
            exact ⟨by first | rfl | (simp [errW_none, errW_some] <;> rfl) | (simp [*, errW_none, errW_some] <;> rfl), HB_⟩
          rw [if_neg c19] at H
          have c19b0 : (a0_0 == 1) = false := beq_eq_false_iff_ne.mpr c19
          have c19b1 : (a0_0 != 1) = true := bne_iff_ne.mpr c19
          by_cases c21 : a0_0 = 2
          · rw [if_pos c21] at H
            have c21b0 : (a0_0 == 2) = true := beq_iff_eq.mpr c21
            have c21b1 : (a0_0 != 2) = false := bne_eq_false_iff_eq.mpr c21
            clear c21
            by_cases c22 : x5_6 = true
            rotate_left
            · replace c22 := Bool.eq_false_iff.mpr c22
              subst c22
              replace H := ng1_ H
              obtain rfl := Option.some.inj H
              have hcz32_0 : wc.cell? ⟨gb475, 0, none⟩ = some (.int .i64 a0_0) := (blk_cell BK475.out 0).trans rfl
              have hcz32_1 : wc.cell? ⟨gb475, 1, none⟩ = some (.int .i64 a0_1) := (blk_cell BK475.out 1).trans rfl
              have hcz32_2 : wc.cell? ⟨gb475, 2, none⟩ = some (.int .i64 a0_2) := (blk_cell BK475.out 2).trans rfl
              have hcz32_3 : wc.cell? ⟨gb475, 3, none⟩ = some (.int .i64 a0_3) := (blk_cell BK475.out 3).trans rfl
              have hcz32_4 : wc.cell? ⟨gb475, 4, none⟩ = some (.int .i64 a0_4) := (blk_cell BK475.out 4).trans rfl
              have hfz32_0 := blk_frozen BK475.out 0
              have hfz32_1 := blk_frozen BK475.out 1
              have hfz32_2 := blk_frozen BK475.out 2
              have hfz32_3 := blk_frozen BK475.out 3
              have hfz32_4 := blk_frozen BK475.out 4
              go_wp2
              repeat (go_quiet (fail); try go_wp2)
              go_ret
              exact ⟨by first | rfl | (simp [errW_none, errW_some] <;> rfl) | (simp [*, errW_none, errW_some] <;> rfl), HB_⟩
            subst c22
            replace H := ps1_ H
            by_cases c23 : x6_6 = true
            · subst c23
              replace H := ps1_ H
              by_cases c24 : x7_6 = true
              · subst c24
                replace H := ps1_ H
                obtain rfl := Option.some.inj H
                have hcz25_0 : wc.cell? ⟨gb475, 0, none⟩ = some (.int .i64 a0_0) := (blk_cell BK475.out 0).trans rfl
                have hcz25_1 : wc.cell? ⟨gb475, 1, none⟩ = some (.int .i64 a0_1) := (blk_cell BK475.out 1).trans rfl
                have hcz25_2 : wc.cell? ⟨gb475, 2, none⟩ = some (.int .i64 a0_2) := (blk_cell BK475.out 2).trans rfl
                have hcz25_3 : wc.cell? ⟨gb475, 3, none⟩ = some (.int .i64 a0_3) := (blk_cell BK475.out 3).trans rfl
                have hcz25_4 : wc.cell? ⟨gb475, 4, none⟩ = some (.int .i64 a0_4) := (blk_cell BK475.out 4).trans rfl
                have hfz25_0 := blk_frozen BK475.out 0
                have hfz25_1 := blk_frozen BK475.out 1
                have hfz25_2 := blk_frozen BK475.out 2
                have hfz25_3 := blk_frozen BK475.out 3
                have hfz25_4 := blk_frozen BK475.out 4
                go_wp2
                repeat (go_quiet (fail); try go_wp2)
                go_ret
                exact ⟨by first | rfl | (simp [errW_none, errW_some] <;> rfl) | (simp [*, errW_none, errW_some] <;> rfl), HB_⟩
              replace c24 := Bool.eq_false_iff.mpr c24
              subst c24
              replace H := ng1_ H
              obtain rfl := Option.some.inj H
              have hcz26_0 : wc.cell? ⟨gb475, 0, none⟩ = some (.int .i64 a0_0) := (blk_cell BK475.out 0).trans rfl
              have hcz26_1 : wc.cell? ⟨gb475, 1, none⟩ = some (.int .i64 a0_1) := (blk_cell BK475.out 1).trans rfl
              have hcz26_2 : wc.cell? ⟨gb475, 2, none⟩ = some (.int .i64 a0_2) := (blk_cell BK475.out 2).trans rfl
              have hcz26_3 : wc.cell? ⟨gb475, 3, none⟩ = some (.int .i64 a0_3) := (blk_cell BK475.out 3).trans rfl
              have hcz26_4 : wc.cell? ⟨gb475, 4, none⟩ = some (.int .i64 a0_4) := (blk_cell BK475.out 4).trans rfl
              have hfz26_0 := blk_frozen BK475.out 0
              have hfz26_1 := blk_frozen BK475.out 1
              have hfz26_2 := blk_frozen BK475.out 2
              have hfz26_3 := blk_frozen BK475.out 3
              have hfz26_4 := blk_frozen BK475.out 4
              go_wp2
              repeat (go_quiet (fail); try go_wp2)
              go_ret
              exact ⟨by first | rfl | (simp [errW_none, errW_some] <;> rfl) | (simp [*, errW_none, errW_some] <;> rfl), HB_⟩
            replace c23 := Bool.eq_false_iff.mpr c23
            subst c23
            replace H := ng1_ H
            by_cases c27 : a0_2 = 0
            rotate_left
            · rw [if_neg c27] at H
              have c27b0 : (a0_2 == 0) = false := beq_eq_false_iff_ne.mpr c27
              have c27b1 : (a0_2 != 0) = true := bne_iff_ne.mpr c27
              obtain rfl := Option.some.inj H
              have hcz31_0 : wc.cell? ⟨gb475, 0, none⟩ = some (.int .i64 a0_0) := (blk_cell BK475.out 0).trans rfl
              have hcz31_1 : wc.cell? ⟨gb475, 1, none⟩ = some (.int .i64 a0_1) := (blk_cell BK475.out 1).trans rfl
              have hcz31_2 : wc.cell? ⟨gb475, 2, none⟩ = some (.int .i64 a0_2) := (blk_cell BK475.out 2).trans rfl
              have hcz31_3 : wc.cell? ⟨gb475, 3, none⟩ = some (.int .i64 a0_3) := (blk_cell BK475.out 3).trans rfl
              have hcz31_4 : wc.cell? ⟨gb475, 4, none⟩ = some (.int .i64 a0_4) := (blk_cell BK475.out 4).trans rfl
              have hfz31_0 := blk_frozen BK475.out 0
              have hfz31_1 := blk_frozen BK475.out 1
              have hfz31_2 := blk_frozen BK475.out 2
              have hfz31_3 := blk_frozen BK475.out 3
              have hfz31_4 := blk_frozen BK475.out 4
              go_wp2
              repeat (go_quiet (fail); try go_wp2)
              go_ret
              exact ⟨by first | rfl | (simp [errW_none, errW_some] <;> rfl) | (simp [*, errW_none, errW_some] <;> rfl), HB_⟩
            rw [if_pos c27] at H
            have c27b0 : (a0_2 == 0) = true := beq_iff_eq.mpr c27
            have c27b1 : (a0_2 != 0) = false := bne_eq_false_iff_eq.mpr c27
            clear c27
            by_cases c28 : x7_6 = true
            · subst c28
              replace H := ps1_ H
              obtain rfl := Option.some.inj H
              have hcz29_0 : wc.cell? ⟨gb475, 0, none⟩ = some (.int .i64 a0_0) := (blk_cell BK475.out 0).trans rfl
              have hcz29_1 : wc.cell? ⟨gb475, 1, none⟩ = some (.int .i64 a0_1) := (blk_cell BK475.out 1).trans rfl
              have hcz29_2 : wc.cell? ⟨gb475, 2, none⟩ = some (.int .i64 a0_2) := (blk_cell BK475.out 2).trans rfl
              have hcz29_3 : wc.cell? ⟨gb475, 3, none⟩ = some (.int .i64 a0_3) := (blk_cell BK475.out 3).trans rfl
              have hcz29_4 : wc.cell? ⟨gb475, 4, none⟩ = some (.int .i64 a0_4) := (blk_cell BK475.out 4).trans rfl
              have hfz29_0 := blk_frozen BK475.out 0
              have hfz29_1 := blk_frozen BK475.out 1
              have hfz29_2 := blk_frozen BK475.out 2
              have hfz29_3 := blk_frozen BK475.out 3
              have hfz29_4 := blk_frozen BK475.out 4
              go_wp2
              repeat (go_quiet (fail); try go_wp2)
              go_ret
              exact ⟨by first | rfl | (simp [errW_none, errW_some] <;> rfl) | (simp [*, errW_none, errW_some] <;> rfl), HB_⟩
            replace c28 := Bool.eq_false_iff.mpr c28
            subst c28
            replace H := ng1_ H
            obtain rfl := Option.some.inj H
            have hcz30_0 : wc.cell? ⟨gb475, 0, none⟩ = some (.int .i64 a0_0) := (blk_cell BK475.out 0).trans rfl
            have hcz30_1 : wc.cell? ⟨gb475, 1, none⟩ = some (.int .i64 a0_1) := (blk_cell BK475.out 1).trans rfl
            have hcz30_2 : wc.cell? ⟨gb475, 2, none⟩ = some (.int .i64 a0_2) := (blk_cell BK475.out 2).trans rfl
            have hcz30_3 : wc.cell? ⟨gb475, 3, none⟩ = some (.int .i64 a0_3) := (blk_cell BK475.out 3).trans rfl
            have hcz30_4 : wc.cell? ⟨gb475, 4, none⟩ = some (.int .i64 a0_4) := (blk_cell BK475.out 4).trans rfl
            have hfz30_0 := blk_frozen BK475.out 0
            have hfz30_1 := blk_frozen BK475.out 1
            have hfz30_2 := blk_frozen BK475.out 2
            have hfz30_3 := blk_frozen BK475.out 3
            have hfz30_4 := blk_frozen BK475.out 4
            go_wp2
            repeat (go_quiet (fail); try go_wp2)
            go_ret
            exact ⟨by first | rfl | (simp [errW_none, errW_some] <;> rfl) | (simp [*, errW_none, errW_some] <;> rfl), HB_⟩
          rw [if_neg c21] at H
          have c21b0 : (a0_0 == 2) = false := beq_eq_false_iff_ne.mpr c21
          have c21b1 : (a0_0 != 2) = true := bne_iff_ne.mpr c21
          by_cases c33 : a0_0 = 3
          · rw [if_pos c33] at H
            have c33b0 : (a0_0 == 3) = true := beq_iff_eq.mpr c33
            have c33b1 : (a0_0 != 3) = false := bne_eq_false_iff_eq.mpr c33
            clear c33
            by_cases c34 : x5_6 = true
            rotate_left
            · replace c34 := Bool.eq_false_iff.mpr c34
              subst c34
              replace H := ng1_ H
              obtain rfl := Option.some.inj H
              have hcz43_0 : wc.cell? ⟨gb475, 0, none⟩ = some (.int .i64 a0_0) := (blk_cell BK475.out 0).trans rfl
              have hcz43_1 : wc.cell? ⟨gb475, 1, none⟩ = some (.int .i64 a0_1) := (blk_cell BK475.out 1).trans rfl
              have hcz43_2 : wc.cell? ⟨gb475, 2, none⟩ = some (.int .i64 a0_2) := (blk_cell BK475.out 2).trans rfl
              have hcz43_3 : wc.cell? ⟨gb475, 3, none⟩ = some (.int .i64 a0_3) := (blk_cell BK475.out 3).trans rfl
              have hcz43_4 : wc.cell? ⟨gb475, 4, none⟩ = some (.int .i64 a0_4) := (blk_cell BK475.out 4).trans rfl
              have hfz43_0 := blk_frozen BK475.out 0
              have hfz43_1 := blk_frozen BK475.out 1
              have hfz43_2 := blk_frozen BK475.out 2
              have hfz43_3 := blk_frozen BK475.out 3
              have hfz43_4 := blk_frozen BK475.out 4
              go_wp2
              repeat (go_quiet (fail); try go_wp2)
              go_ret
              exact ⟨by first | rfl | (simp [errW_none, errW_some] <;> rfl) | (simp [*, errW_none, errW_some] <;> rfl), HB_⟩
            subst c34
            replace H := ps1_ H
            by_cases c35 : a0_2 = 0
            rotate_left
            · rw [if_neg c35] at H
              have c35b0 : (a0_2 == 0) = false := beq_eq_false_iff_ne.mpr c35
              have c35b1 : (a0_2 != 0) = true := bne_iff_ne.mpr c35
              obtain rfl := Option.some.inj H
              have hcz42_0 : wc.cell? ⟨gb475, 0, none⟩ = some (.int .i64 a0_0) := (blk_cell BK475.out 0).trans rfl
              have hcz42_1 : wc.cell? ⟨gb475, 1, none⟩ = some (.int .i64 a0_1) := (blk_cell BK475.out 1).trans rfl
              have hcz42_2 : wc.cell? ⟨gb475, 2, none⟩ = some (.int .i64 a0_2) := (blk_cell BK475.out 2).trans rfl
              have hcz42_3 : wc.cell? ⟨gb475, 3, none⟩ = some (.int .i64 a0_3) := (blk_cell BK475.out 3).trans rfl
              have hcz42_4 : wc.cell? ⟨gb475, 4, none⟩ = some (.int .i64 a0_4) := (blk_cell BK475.out 4).trans rfl
              have hfz42_0 := blk_frozen BK475.out 0
              have hfz42_1 := blk_frozen BK475.out 1
              have hfz42_2 := blk_frozen BK475.out 2
              have hfz42_3 := blk_frozen BK475.out 3
              have hfz42_4 := blk_frozen BK475.out 4
              go_wp2
              repeat (go_quiet (fail); try go_wp2)
              go_ret
              exact ⟨by first | rfl | (simp [errW_none, errW_some] <;> rfl) | (simp [*, errW_none, errW_some] <;> rfl), HB_⟩
            rw [if_pos c35] at H
            have c35b0 : (a0_2 == 0) = true := beq_iff_eq.mpr c35
            have c35b1 : (a0_2 != 0) = false := bne_eq_false_iff_eq.mpr c35
            clear c35
            by_cases c36 : x7_6 = true
            rotate_left
            · replace c36 := Bool.eq_false_iff.mpr c36
              subst c36
              replace H := ng1_ H
              obtain rfl := Option.some.inj H
              have hcz41_0 : wc.cell? ⟨gb475, 0, none⟩ = some (.int .i64 a0_0) := (blk_cell BK475.out 0).trans rfl
              have hcz41_1 : wc.cell? ⟨gb475, 1, none⟩ = some (.int .i64 a0_1) := (blk_cell BK475.out 1).trans rfl
              have hcz41_2 : wc.cell? ⟨gb475, 2, none⟩ = some (.int .i64 a0_2) := (blk_cell BK475.out 2).trans rfl
              have hcz41_3 : wc.cell? ⟨gb475, 3, none⟩ = some (.int .i64 a0_3) := (blk_cell BK475.out 3).trans rfl
              have hcz41_4 : wc.cell? ⟨gb475, 4, none⟩ = some (.int .i64 a0_4) := (blk_cell BK475.out 4).trans rfl
              have hfz41_0 := blk_frozen BK475.out 0
              have hfz41_1 := blk_frozen BK475.out 1
              have hfz41_2 := blk_frozen BK475.out 2
              have hfz41_3 := blk_frozen BK475.out 3
              have hfz41_4 := blk_frozen BK475.out 4
              go_wp2
              repeat (go_quiet (fail); try go_wp2)
              go_ret
              exact ⟨by first | rfl | (simp [errW_none, errW_some] <;> rfl) | (simp [*, errW_none, errW_some] <;> rfl), HB_⟩
            subst c36
            replace H := ps1_ H
            replace H := bd_ H
            obtain ⟨t480, A37, H⟩ := H
            (try dsimp only at H)
            by_cases c38 : t480 = true
            · subst c38
              replace H := ps1_ H
              obtain rfl := Option.some.inj H
              have hcz39_0 : wc.cell? ⟨gb475, 0, none⟩ = some (.int .i64 a0_0) := (blk_cell BK475.out 0).trans rfl
              have hcz39_1 : wc.cell? ⟨gb475, 1, none⟩ = some (.int .i64 a0_1) := (blk_cell BK475.out 1).trans rfl
              have hcz39_2 : wc.cell? ⟨gb475, 2, none⟩ = some (.int .i64 a0_2) := (blk_cell BK475.out 2).trans rfl
              have hcz39_3 : wc.cell? ⟨gb475, 3, none⟩ = some (.int .i64 a0_3) := (blk_cell BK475.out 3).trans rfl
              have hcz39_4 : wc.cell? ⟨gb475, 4, none⟩ = some (.int .i64 a0_4) := (blk_cell BK475.out 4).trans rfl
              have hfz39_0 := blk_frozen BK475.out 0
              have hfz39_1 := blk_frozen BK475.out 1
              have hfz39_2 := blk_frozen BK475.out 2
              have hfz39_3 := blk_frozen BK475.out 3
              have hfz39_4 := blk_frozen BK475.out 4
              go_wp2_with (first | (go_at_call 43; (with_reducible refine (warrantorref06_Is.calls a0_4 true _ A37.out).mono ?_); rintro e w' ⟨rfl, ⟨nd, rfl⟩⟩; (try first | exact ⟨rfl, _, World.drewN_drewN _ _ _⟩ | exact ⟨rfl, _, Eq.trans (World.drewN_drewN _ _ _) (congrArg (World.drewN _) (Nat.add_assoc _ _ _))⟩)))
              repeat (go_quiet (first | (go_at_call 43; (with_reducible refine (warrantorref06_Is.calls a0_4 true _ A37.out).mono ?_); rintro e w' ⟨rfl, ⟨nd, rfl⟩⟩; (try first | exact ⟨rfl, _, World.drewN_drewN _ _ _⟩ | exact ⟨rfl, _, Eq.trans (World.drewN_drewN _ _ _) (congrArg (World.drewN _) (Nat.add_assoc _ _ _))⟩))); try go_wp2_with (first | (go_at_call 43; (with_reducible refine (warrantorref06_Is.calls a0_4 true _ A37.out).mono ?_); rintro e w' ⟨rfl, ⟨nd, rfl⟩⟩; (try first | exact ⟨rfl, _, World.drewN_drewN _ _ _⟩ | exact ⟨rfl, _, Eq.trans (World.drewN_drewN _ _ _) (congrArg (World.drewN _) (Nat.add_assoc _ _ _))⟩))))
              go_ret
              exact ⟨by first | rfl | (simp [errW_none, errW_some] <;> rfl) | (simp [*, errW_none, errW_some] <;> rfl), HB_⟩
            replace c38 := Bool.eq_false_iff.mpr c38
            subst c38
            replace H := ng1_ H
            obtain rfl := Option.some.inj H
            have hcz40_0 : wc.cell? ⟨gb475, 0, none⟩ = some (.int .i64 a0_0) := (blk_cell BK475.out 0).trans rfl
            have hcz40_1 : wc.cell? ⟨gb475, 1, none⟩ = some (.int .i64 a0_1) := (blk_cell BK475.out 1).trans rfl
            have hcz40_2 : wc.cell? ⟨gb475, 2, none⟩ = some (.int .i64 a0_2) := (blk_cell BK475.out 2).trans rfl
            have hcz40_3 : wc.cell? ⟨gb475, 3, none⟩ = some (.int .i64 a0_3) := (blk_cell BK475.out 3).trans rfl
            have hcz40_4 : wc.cell? ⟨gb475, 4, none⟩ = some (.int .i64 a0_4) := (blk_cell BK475.out 4).trans rfl
            have hfz40_0 := blk_frozen BK475.out 0
            have hfz40_1 := blk_frozen BK475.out 1
            have hfz40_2 := blk_frozen BK475.out 2
            have hfz40_3 := blk_frozen BK475.out 3
            have hfz40_4 := blk_frozen BK475.out 4
            go_wp2_with (first | (go_at_call 43; (with_reducible refine (warrantorref06_Is.calls a0_4 false _ A37.out).mono ?_); rintro e w' ⟨rfl, ⟨nd, rfl⟩⟩; (try first | exact ⟨rfl, _, World.drewN_drewN _ _ _⟩ | exact ⟨rfl, _, Eq.trans (World.drewN_drewN _ _ _) (congrArg (World.drewN _) (Nat.add_assoc _ _ _))⟩)))
            repeat (go_quiet (first | (go_at_call 43; (with_reducible refine (warrantorref06_Is.calls a0_4 false _ A37.out).mono ?_); rintro e w' ⟨rfl, ⟨nd, rfl⟩⟩; (try first | exact ⟨rfl, _, World.drewN_drewN _ _ _⟩ | exact ⟨rfl, _, Eq.trans (World.drewN_drewN _ _ _) (congrArg (World.drewN _) (Nat.add_assoc _ _ _))⟩))); try go_wp2_with (first | (go_at_call 43; (with_reducible refine (warrantorref06_Is.calls a0_4 false _ A37.out).mono ?_); rintro e w' ⟨rfl, ⟨nd, rfl⟩⟩; (try first | exact ⟨rfl, _, World.drewN_drewN _ _ _⟩ | exact ⟨rfl, _, Eq.trans (World.drewN_drewN _ _ _) (congrArg (World.drewN _) (Nat.add_assoc _ _ _))⟩))))
            go_ret
            exact ⟨by first | rfl | (simp [errW_none, errW_some] <;> rfl) | (simp [*, errW_none, errW_some] <;> rfl), HB_⟩
          rw [if_neg c33] at H
          have c33b0 : (a0_0 == 3) = false := beq_eq_false_iff_ne.mpr c33
          have c33b1 : (a0_0 != 3) = true := bne_iff_ne.mpr c33
          by_cases c44 : a0_0 = 4
          · rw [if_pos c44] at H
            have c44b0 : (a0_0 == 4) = true := beq_iff_eq.mpr c44
            have c44b1 : (a0_0 != 4) = false := bne_eq_false_iff_eq.mpr c44
            clear c44
            by_cases c45 : x5_6 = true
            · subst c45
              replace H := ps1_ H
              by_cases c46 : x6_6 = true
              · subst c46
                replace H := ps1_ H
                by_cases c47 : a0_1 = a0_2
                · rw [if_pos c47] at H
                  have c47b0 : (a0_1 == a0_2) = true := beq_iff_eq.mpr c47
                  have c47b1 : (a0_1 != a0_2) = false := bne_eq_false_iff_eq.mpr c47
                  clear c47
                  obtain rfl := Option.some.inj H
                  have hcz48_0 : wc.cell? ⟨gb475, 0, none⟩ = some (.int .i64 a0_0) := (blk_cell BK475.out 0).trans rfl
                  have hcz48_1 : wc.cell? ⟨gb475, 1, none⟩ = some (.int .i64 a0_1) := (blk_cell BK475.out 1).trans rfl
                  have hcz48_2 : wc.cell? ⟨gb475, 2, none⟩ = some (.int .i64 a0_2) := (blk_cell BK475.out 2).trans rfl
                  have hcz48_3 : wc.cell? ⟨gb475, 3, none⟩ = some (.int .i64 a0_3) := (blk_cell BK475.out 3).trans rfl
                  have hcz48_4 : wc.cell? ⟨gb475, 4, none⟩ = some (.int .i64 a0_4) := (blk_cell BK475.out 4).trans rfl
                  have hfz48_0 := blk_frozen BK475.out 0
                  have hfz48_1 := blk_frozen BK475.out 1
                  have hfz48_2 := blk_frozen BK475.out 2
                  have hfz48_3 := blk_frozen BK475.out 3
                  have hfz48_4 := blk_frozen BK475.out 4
                  go_wp2
                  repeat (go_quiet (fail); try go_wp2)
                  go_ret
                  exact ⟨by first | rfl | (simp [errW_none, errW_some] <;> rfl) | (simp [*, errW_none, errW_some] <;> rfl), HB_⟩
                rw [if_neg c47] at H
                have c47b0 : (a0_1 == a0_2) = false := beq_eq_false_iff_ne.mpr c47
                have c47b1 : (a0_1 != a0_2) = true := bne_iff_ne.mpr c47
                by_cases c49 : x7_6 = true
                · subst c49
                  replace H := ps1_ H
                  obtain rfl := Option.some.inj H
                  have hcz50_0 : wc.cell? ⟨gb475, 0, none⟩ = some (.int .i64 a0_0) := (blk_cell BK475.out 0).trans rfl
                  have hcz50_1 : wc.cell? ⟨gb475, 1, none⟩ = some (.int .i64 a0_1) := (blk_cell BK475.out 1).trans rfl
                  have hcz50_2 : wc.cell? ⟨gb475, 2, none⟩ = some (.int .i64 a0_2) := (blk_cell BK475.out 2).trans rfl
                  have hcz50_3 : wc.cell? ⟨gb475, 3, none⟩ = some (.int .i64 a0_3) := (blk_cell BK475.out 3).trans rfl
                  have hcz50_4 : wc.cell? ⟨gb475, 4, none⟩ = some (.int .i64 a0_4) := (blk_cell BK475.out 4).trans rfl
                  have hfz50_0 := blk_frozen BK475.out 0
                  have hfz50_1 := blk_frozen BK475.out 1
                  have hfz50_2 := blk_frozen BK475.out 2
                  have hfz50_3 := blk_frozen BK475.out 3
                  have hfz50_4 := blk_frozen BK475.out 4
                  go_wp2
                  repeat (go_quiet (fail); try go_wp2)
                  go_ret
                  exact ⟨by first | rfl | (simp [errW_none, errW_some] <;> rfl) | (simp [*, errW_none, errW_some] <;> rfl), HB_⟩
                replace c49 := Bool.eq_false_iff.mpr c49
                subst c49
                replace H := ng1_ H
                obtain rfl := Option.some.inj H
                have hcz51_0 : wc.cell? ⟨gb475, 0, none⟩ = some (.int .i64 a0_0) := (blk_cell BK475.out 0).trans rfl
                have hcz51_1 : wc.cell? ⟨gb475, 1, none⟩ = some (.int .i64 a0_1) := (blk_cell BK475.out 1).trans rfl
                have hcz51_2 : wc.cell? ⟨gb475, 2, none⟩ = some (.int .i64 a0_2) := (blk_cell BK475.out 2).trans rfl
                have hcz51_3 : wc.cell? ⟨gb475, 3, none⟩ = some (.int .i64 a0_3) := (blk_cell BK475.out 3).trans rfl
                have hcz51_4 : wc.cell? ⟨gb475, 4, none⟩ = some (.int .i64 a0_4) := (blk_cell BK475.out 4).trans rfl
                have hfz51_0 := blk_frozen BK475.out 0
                have hfz51_1 := blk_frozen BK475.out 1
                have hfz51_2 := blk_frozen BK475.out 2
                have hfz51_3 := blk_frozen BK475.out 3
                have hfz51_4 := blk_frozen BK475.out 4
                go_wp2
                repeat (go_quiet (fail); try go_wp2)
                go_ret
                exact ⟨by first | rfl | (simp [errW_none, errW_some] <;> rfl) | (simp [*, errW_none, errW_some] <;> rfl), HB_⟩
              replace c46 := Bool.eq_false_iff.mpr c46
              subst c46
              replace H := ng1_ H
              by_cases c52 : a0_2 = 0
              rotate_left
              · rw [if_neg c52] at H
                have c52b0 : (a0_2 == 0) = false := beq_eq_false_iff_ne.mpr c52
                have c52b1 : (a0_2 != 0) = true := bne_iff_ne.mpr c52
                obtain rfl := Option.some.inj H
                have hcz58_0 : wc.cell? ⟨gb475, 0, none⟩ = some (.int .i64 a0_0) := (blk_cell BK475.out 0).trans rfl
                have hcz58_1 : wc.cell? ⟨gb475, 1, none⟩ = some (.int .i64 a0_1) := (blk_cell BK475.out 1).trans rfl
                have hcz58_2 : wc.cell? ⟨gb475, 2, none⟩ = some (.int .i64 a0_2) := (blk_cell BK475.out 2).trans rfl
                have hcz58_3 : wc.cell? ⟨gb475, 3, none⟩ = some (.int .i64 a0_3) := (blk_cell BK475.out 3).trans rfl
                have hcz58_4 : wc.cell? ⟨gb475, 4, none⟩ = some (.int .i64 a0_4) := (blk_cell BK475.out 4).trans rfl
                have hfz58_0 := blk_frozen BK475.out 0
                have hfz58_1 := blk_frozen BK475.out 1
                have hfz58_2 := blk_frozen BK475.out 2
                have hfz58_3 := blk_frozen BK475.out 3
                have hfz58_4 := blk_frozen BK475.out 4
                go_wp2
                repeat (go_quiet (fail); try go_wp2)
                go_ret
                exact ⟨by first | rfl | (simp [errW_none, errW_some] <;> rfl) | (simp [*, errW_none, errW_some] <;> rfl), HB_⟩
              rw [if_pos c52] at H
              have c52b0 : (a0_2 == 0) = true := beq_iff_eq.mpr c52
              have c52b1 : (a0_2 != 0) = false := bne_eq_false_iff_eq.mpr c52
              clear c52
              by_cases c53 : a0_1 = a0_2
              · rw [if_pos c53] at H
                have c53b0 : (a0_1 == a0_2) = true := beq_iff_eq.mpr c53
                have c53b1 : (a0_1 != a0_2) = false := bne_eq_false_iff_eq.mpr c53
                clear c53
                obtain rfl := Option.some.inj H
                have hcz54_0 : wc.cell? ⟨gb475, 0, none⟩ = some (.int .i64 a0_0) := (blk_cell BK475.out 0).trans rfl
                have hcz54_1 : wc.cell? ⟨gb475, 1, none⟩ = some (.int .i64 a0_1) := (blk_cell BK475.out 1).trans rfl
                have hcz54_2 : wc.cell? ⟨gb475, 2, none⟩ = some (.int .i64 a0_2) := (blk_cell BK475.out 2).trans rfl
                have hcz54_3 : wc.cell? ⟨gb475, 3, none⟩ = some (.int .i64 a0_3) := (blk_cell BK475.out 3).trans rfl
                have hcz54_4 : wc.cell? ⟨gb475, 4, none⟩ = some (.int .i64 a0_4) := (blk_cell BK475.out 4).trans rfl
                have hfz54_0 := blk_frozen BK475.out 0
                have hfz54_1 := blk_frozen BK475.out 1
                have hfz54_2 := blk_frozen BK475.out 2
                have hfz54_3 := blk_frozen BK475.out 3
                have hfz54_4 := blk_frozen BK475.out 4
                go_wp2
                repeat (go_quiet (fail); try go_wp2)
                go_ret
                exact ⟨by first | rfl | (simp [errW_none, errW_some] <;> rfl) | (simp [*, errW_none, errW_some] <;> rfl), HB_⟩
              rw [if_neg c53] at H
              have c53b0 : (a0_1 == a0_2) = false := beq_eq_false_iff_ne.mpr c53
              have c53b1 : (a0_1 != a0_2) = true := bne_iff_ne.mpr c53
              by_cases c55 : x7_6 = true
              · subst c55
                replace H := ps1_ H
                obtain rfl := Option.some.inj H
                have hcz56_0 : wc.cell? ⟨gb475, 0, none⟩ = some (.int .i64 a0_0) := (blk_cell BK475.out 0).trans rfl
                have hcz56_1 : wc.cell? ⟨gb475, 1, none⟩ = some (.int .i64 a0_1) := (blk_cell BK475.out 1).trans rfl
                have hcz56_2 : wc.cell? ⟨gb475, 2, none⟩ = some (.int .i64 a0_2) := (blk_cell BK475.out 2).trans rfl
                have hcz56_3 : wc.cell? ⟨gb475, 3, none⟩ = some (.int .i64 a0_3) := (blk_cell BK475.out 3).trans rfl
                have hcz56_4 : wc.cell? ⟨gb475, 4, none⟩ = some (.int .i64 a0_4) := (blk_cell BK475.out 4).trans rfl
                have hfz56_0 := blk_frozen BK475.out 0
                have hfz56_1 := blk_frozen BK475.out 1
                have hfz56_2 := blk_frozen BK475.out 2
                have hfz56_3 := blk_frozen BK475.out 3
                have hfz56_4 := blk_frozen BK475.out 4
                go_wp2
                repeat (go_quiet (fail); try go_wp2)
                go_ret
                exact ⟨by first | rfl | (simp [errW_none, errW_some] <;> rfl) | (simp [*, errW_none, errW_some] <;> rfl), HB_⟩
              replace c55 := Bool.eq_false_iff.mpr c55
              subst c55
              replace H := ng1_ H
              obtain rfl := Option.some.inj H
              have hcz57_0 : wc.cell? ⟨gb475, 0, none⟩ = some (.int .i64 a0_0) := (blk_cell BK475.out 0).trans rfl
              have hcz57_1 : wc.cell? ⟨gb475, 1, none⟩ = some (.int .i64 a0_1) := (blk_cell BK475.out 1).trans rfl
              have hcz57_2 : wc.cell? ⟨gb475, 2, none⟩ = some (.int .i64 a0_2) := (blk_cell BK475.out 2).trans rfl
              have hcz57_3 : wc.cell? ⟨gb475, 3, none⟩ = some (.int .i64 a0_3) := (blk_cell BK475.out 3).trans rfl
              have hcz57_4 : wc.cell? ⟨gb475, 4, none⟩ = some (.int .i64 a0_4) := (blk_cell BK475.out 4).trans rfl
              have hfz57_0 := blk_frozen BK475.out 0
              have hfz57_1 := blk_frozen BK475.out 1
              have hfz57_2 := blk_frozen BK475.out 2
              have hfz57_3 := blk_frozen BK475.out 3
              have hfz57_4 := blk_frozen BK475.out 4
              go_wp2
              repeat (go_quiet (fail); try go_wp2)
              go_ret
              exact ⟨by first | rfl | (simp [errW_none, errW_some] <;> rfl) | (simp [*, errW_none, errW_some] <;> rfl), HB_⟩
            replace c45 := Bool.eq_false_iff.mpr c45
            subst c45
            replace H := ng1_ H
            by_cases c59 : a0_1 = 0
            rotate_left
            · rw [if_neg c59] at H
              have c59b0 : (a0_1 == 0) = false := beq_eq_false_iff_ne.mpr c59
              have c59b1 : (a0_1 != 0) = true := bne_iff_ne.mpr c59
              obtain rfl := Option.some.inj H
              have hcz73_0 : wc.cell? ⟨gb475, 0, none⟩ = some (.int .i64 a0_0) := (blk_cell BK475.out 0).trans rfl
              have hcz73_1 : wc.cell? ⟨gb475, 1, none⟩ = some (.int .i64 a0_1) := (blk_cell BK475.out 1).trans rfl
              have hcz73_2 : wc.cell? ⟨gb475, 2, none⟩ = some (.int .i64 a0_2) := (blk_cell BK475.out 2).trans rfl
              have hcz73_3 : wc.cell? ⟨gb475, 3, none⟩ = some (.int .i64 a0_3) := (blk_cell BK475.out 3).trans rfl
              have hcz73_4 : wc.cell? ⟨gb475, 4, none⟩ = some (.int .i64 a0_4) := (blk_cell BK475.out 4).trans rfl
              have hfz73_0 := blk_frozen BK475.out 0
              have hfz73_1 := blk_frozen BK475.out 1
              have hfz73_2 := blk_frozen BK475.out 2
              have hfz73_3 := blk_frozen BK475.out 3
              have hfz73_4 := blk_frozen BK475.out 4
              go_wp2
              repeat (go_quiet (fail); try go_wp2)
              go_ret
              exact ⟨by first | rfl | (simp [errW_none, errW_some] <;> rfl) | (simp [*, errW_none, errW_some] <;> rfl), HB_⟩
            rw [if_pos c59] at H
            have c59b0 : (a0_1 == 0) = true := beq_iff_eq.mpr c59
            have c59b1 : (a0_1 != 0) = false := bne_eq_false_iff_eq.mpr c59
            clear c59
            by_cases c60 : x6_6 = true
            · subst c60
              replace H := ps1_ H
              by_cases c61 : a0_1 = a0_2
              · rw [if_pos c61] at H
                have c61b0 : (a0_1 == a0_2) = true := beq_iff_eq.mpr c61
                have c61b1 : (a0_1 != a0_2) = false := bne_eq_false_iff_eq.mpr c61
                clear c61
                obtain rfl := Option.some.inj H
                have hcz62_0 : wc.cell? ⟨gb475, 0, none⟩ = some (.int .i64 a0_0) := (blk_cell BK475.out 0).trans rfl
                have hcz62_1 : wc.cell? ⟨gb475, 1, none⟩ = some (.int .i64 a0_1) := (blk_cell BK475.out 1).trans rfl
                have hcz62_2 : wc.cell? ⟨gb475, 2, none⟩ = some (.int .i64 a0_2) := (blk_cell BK475.out 2).trans rfl
                have hcz62_3 : wc.cell? ⟨gb475, 3, none⟩ = some (.int .i64 a0_3) := (blk_cell BK475.out 3).trans rfl
                have hcz62_4 : wc.cell? ⟨gb475, 4, none⟩ = some (.int .i64 a0_4) := (blk_cell BK475.out 4).trans rfl
                have hfz62_0 := blk_frozen BK475.out 0
                have hfz62_1 := blk_frozen BK475.out 1
                have hfz62_2 := blk_frozen BK475.out 2
                have hfz62_3 := blk_frozen BK475.out 3
                have hfz62_4 := blk_frozen BK475.out 4
                go_wp2
                repeat (go_quiet (fail); try go_wp2)
                go_ret
                exact ⟨by first | rfl | (simp [errW_none, errW_some] <;> rfl) | (simp [*, errW_none, errW_some] <;> rfl), HB_⟩
              rw [if_neg c61] at H
              have c61b0 : (a0_1 == a0_2) = false := beq_eq_false_iff_ne.mpr c61
              have c61b1 : (a0_1 != a0_2) = true := bne_iff_ne.mpr c61
              by_cases c63 : x7_6 = true
              · subst c63
                replace H := ps1_ H
                obtain rfl := Option.some.inj H
                have hcz64_0 : wc.cell? ⟨gb475, 0, none⟩ = some (.int .i64 a0_0) := (blk_cell BK475.out 0).trans rfl
                have hcz64_1 : wc.cell? ⟨gb475, 1, none⟩ = some (.int .i64 a0_1) := (blk_cell BK475.out 1).trans rfl
                have hcz64_2 : wc.cell? ⟨gb475, 2, none⟩ = some (.int .i64 a0_2) := (blk_cell BK475.out 2).trans rfl
                have hcz64_3 : wc.cell? ⟨gb475, 3, none⟩ = some (.int .i64 a0_3) := (blk_cell BK475.out 3).trans rfl
                have hcz64_4 : wc.cell? ⟨gb475, 4, none⟩ = some (.int .i64 a0_4) := (blk_cell BK475.out 4).trans rfl
                have hfz64_0 := blk_frozen BK475.out 0
                have hfz64_1 := blk_frozen BK475.out 1
                have hfz64_2 := blk_frozen BK475.out 2
                have hfz64_3 := blk_frozen BK475.out 3
                have hfz64_4 := blk_frozen BK475.out 4
                go_wp2
                repeat (go_quiet (fail); try go_wp2)
                go_ret
                exact ⟨by first | rfl | (simp [errW_none, errW_some] <;> rfl) | (simp [*, errW_none, errW_some] <;> rfl), HB_⟩
              replace c63 := Bool.eq_false_iff.mpr c63
              subst c63
              replace H := ng1_ H
              obtain rfl := Option.some.inj H
              have hcz65_0 : wc.cell? ⟨gb475, 0, none⟩ = some (.int .i64 a0_0) := (blk_cell BK475.out 0).trans rfl
              have hcz65_1 : wc.cell? ⟨gb475, 1, none⟩ = some (.int .i64 a0_1) := (blk_cell BK475.out 1).trans rfl
              have hcz65_2 : wc.cell? ⟨gb475, 2, none⟩ = some (.int .i64 a0_2) := (blk_cell BK475.out 2).trans rfl
              have hcz65_3 : wc.cell? ⟨gb475, 3, none⟩ = some (.int .i64 a0_3) := (blk_cell BK475.out 3).trans rfl
              have hcz65_4 : wc.cell? ⟨gb475, 4, none⟩ = some (.int .i64 a0_4) := (blk_cell BK475.out 4).trans rfl
              have hfz65_0 := blk_frozen BK475.out 0
              have hfz65_1 := blk_frozen BK475.out 1
              have hfz65_2 := blk_frozen BK475.out 2
              have hfz65_3 := blk_frozen BK475.out 3
              have hfz65_4 := blk_frozen BK475.out 4
              go_wp2
              repeat (go_quiet (fail); try go_wp2)
              go_ret
              exact ⟨by first | rfl | (simp [errW_none, errW_some] <;> rfl) | (simp [*, errW_none, errW_some] <;> rfl), HB_⟩
            replace c60 := Bool.eq_false_iff.mpr c60
            subst c60
            replace H := ng1_ H
            by_cases c66 : a0_2 = 0
            rotate_left
            · rw [if_neg c66] at H
              have c66b0 : (a0_2 == 0) = false := beq_eq_false_iff_ne.mpr c66
              have c66b1 : (a0_2 != 0) = true := bne_iff_ne.mpr c66
              obtain rfl := Option.some.inj H
              have hcz72_0 : wc.cell? ⟨gb475, 0, none⟩ = some (.int .i64 a0_0) := (blk_cell BK475.out 0).trans rfl
              have hcz72_1 : wc.cell? ⟨gb475, 1, none⟩ = some (.int .i64 a0_1) := (blk_cell BK475.out 1).trans rfl
              have hcz72_2 : wc.cell? ⟨gb475, 2, none⟩ = some (.int .i64 a0_2) := (blk_cell BK475.out 2).trans rfl
              have hcz72_3 : wc.cell? ⟨gb475, 3, none⟩ = some (.int .i64 a0_3) := (blk_cell BK475.out 3).trans rfl
              have hcz72_4 : wc.cell? ⟨gb475, 4, none⟩ = some (.int .i64 a0_4) := (blk_cell BK475.out 4).trans rfl
              have hfz72_0 := blk_frozen BK475.out 0
              have hfz72_1 := blk_frozen BK475.out 1
              have hfz72_2 := blk_frozen BK475.out 2
              have hfz72_3 := blk_frozen BK475.out 3
              have hfz72_4 := blk_frozen BK475.out 4
              go_wp2
              repeat (go_quiet (fail); try go_wp2)
              go_ret
              exact ⟨by first | rfl | (simp [errW_none, errW_some] <;> rfl) | (simp [*, errW_none, errW_some] <;> rfl), HB_⟩
            rw [if_pos c66] at H
            have c66b0 : (a0_2 == 0) = true := beq_iff_eq.mpr c66
            have c66b1 : (a0_2 != 0) = false := bne_eq_false_iff_eq.mpr c66
            clear c66
            by_cases c67 : a0_1 = a0_2
            · rw [if_pos c67] at H
              have c67b0 : (a0_1 == a0_2) = true := beq_iff_eq.mpr c67
              have c67b1 : (a0_1 != a0_2) = false := bne_eq_false_iff_eq.mpr c67
              clear c67
              obtain rfl := Option.some.inj H
              have hcz68_0 : wc.cell? ⟨gb475, 0, none⟩ = some (.int .i64 a0_0) := (blk_cell BK475.out 0).trans rfl
              have hcz68_1 : wc.cell? ⟨gb475, 1, none⟩ = some (.int .i64 a0_1) := (blk_cell BK475.out 1).trans rfl
              have hcz68_2 : wc.cell? ⟨gb475, 2, none⟩ = some (.int .i64 a0_2) := (blk_cell BK475.out 2).trans rfl
              have hcz68_3 : wc.cell? ⟨gb475, 3, none⟩ = some (.int .i64 a0_3) := (blk_cell BK475.out 3).trans rfl
              have hcz68_4 : wc.cell? ⟨gb475, 4, none⟩ = some (.int .i64 a0_4) := (blk_cell BK475.out 4).trans rfl
              have hfz68_0 := blk_frozen BK475.out 0
              have hfz68_1 := blk_frozen BK475.out 1
              have hfz68_2 := blk_frozen BK475.out 2
              have hfz68_3 := blk_frozen BK475.out 3
              have hfz68_4 := blk_frozen BK475.out 4
              go_wp2
              repeat (go_quiet (fail); try go_wp2)
              go_ret
              exact ⟨by first | rfl | (simp [errW_none, errW_some] <;> rfl) | (simp [*, errW_none, errW_some] <;> rfl), HB_⟩
            rw [if_neg c67] at H
            have c67b0 : (a0_1 == a0_2) = false := beq_eq_false_iff_ne.mpr c67
            have c67b1 : (a0_1 != a0_2) = true := bne_iff_ne.mpr c67
            by_cases c69 : x7_6 = true
            · subst c69
              replace H := ps1_ H
              obtain rfl := Option.some.inj H
              have hcz70_0 : wc.cell? ⟨gb475, 0, none⟩ = some (.int .i64 a0_0) := (blk_cell BK475.out 0).trans rfl
              have hcz70_1 : wc.cell? ⟨gb475, 1, none⟩ = some (.int .i64 a0_1) := (blk_cell BK475.out 1).trans rfl
              have hcz70_2 : wc.cell? ⟨gb475, 2, none⟩ = some (.int .i64 a0_2) := (blk_cell BK475.out 2).trans rfl
              have hcz70_3 : wc.cell? ⟨gb475, 3, none⟩ = some (.int .i64 a0_3) := (blk_cell BK475.out 3).trans rfl
              have hcz70_4 : wc.cell? ⟨gb475, 4, none⟩ = some (.int .i64 a0_4) := (blk_cell BK475.out 4).trans rfl
              have hfz70_0 := blk_frozen BK475.out 0
              have hfz70_1 := blk_frozen BK475.out 1
              have hfz70_2 := blk_frozen BK475.out 2
              have hfz70_3 := blk_frozen BK475.out 3
              have hfz70_4 := blk_frozen BK475.out 4
              go_wp2
              repeat (go_quiet (fail); try go_wp2)
              go_ret
              exact ⟨by first | rfl | (simp [errW_none, errW_some] <;> rfl) | (simp [*, errW_none, errW_some] <;> rfl), HB_⟩
            replace c69 := Bool.eq_false_iff.mpr c69
            subst c69
            replace H := ng1_ H
            obtain rfl := Option.some.inj H
            have hcz71_0 : wc.cell? ⟨gb475, 0, none⟩ = some (.int .i64 a0_0) := (blk_cell BK475.out 0).trans rfl
            have hcz71_1 : wc.cell? ⟨gb475, 1, none⟩ = some (.int .i64 a0_1) := (blk_cell BK475.out 1).trans rfl
            have hcz71_2 : wc.cell? ⟨gb475, 2, none⟩ = some (.int .i64 a0_2) := (blk_cell BK475.out 2).trans rfl
            have hcz71_3 : wc.cell? ⟨gb475, 3, none⟩ = some (.int .i64 a0_3) := (blk_cell BK475.out 3).trans rfl
            have hcz71_4 : wc.cell? ⟨gb475, 4, none⟩ = some (.int .i64 a0_4) := (blk_cell BK475.out 4).trans rfl
            have hfz71_0 := blk_frozen BK475.out 0
            have hfz71_1 := blk_frozen BK475.out 1
            have hfz71_2 := blk_frozen BK475.out 2
            have hfz71_3 := blk_frozen BK475.out 3
            have hfz71_4 := blk_frozen BK475.out 4
            go_wp2
            repeat (go_quiet (fail); try go_wp2)
            go_ret
            exact ⟨by first | rfl | (simp [errW_none, errW_some] <;> rfl) | (simp [*, errW_none, errW_some] <;> rfl), HB_⟩
          rw [if_neg c44] at H
          have c44b0 : (a0_0 == 4) = false := beq_eq_false_iff_ne.mpr c44
          have c44b1 : (a0_0 != 4) = true := bne_iff_ne.mpr c44
          by_cases c74 : a0_0 = 5
          rotate_left
          · rw [if_neg c74] at H
            have c74b0 : (a0_0 == 5) = false := beq_eq_false_iff_ne.mpr c74
            have c74b1 : (a0_0 != 5) = true := bne_iff_ne.mpr c74
            obtain rfl := Option.some.inj H
            have hcz104_0 : wc.cell? ⟨gb475, 0, none⟩ = some (.int .i64 a0_0) := (blk_cell BK475.out 0).trans rfl
            have hcz104_1 : wc.cell? ⟨gb475, 1, none⟩ = some (.int .i64 a0_1) := (blk_cell BK475.out 1).trans rfl
            have hcz104_2 : wc.cell? ⟨gb475, 2, none⟩ = some (.int .i64 a0_2) := (blk_cell BK475.out 2).trans rfl
            have hcz104_3 : wc.cell? ⟨gb475, 3, none⟩ = some (.int .i64 a0_3) := (blk_cell BK475.out 3).trans rfl
            have hcz104_4 : wc.cell? ⟨gb475, 4, none⟩ = some (.int .i64 a0_4) := (blk_cell BK475.out 4).trans rfl
            have hfz104_0 := blk_frozen BK475.out 0
            have hfz104_1 := blk_frozen BK475.out 1
            have hfz104_2 := blk_frozen BK475.out 2
            have hfz104_3 := blk_frozen BK475.out 3
            have hfz104_4 := blk_frozen BK475.out 4
            go_wp2
            repeat (go_quiet (fail); try go_wp2)
            go_ret
            exact ⟨by first | rfl | (simp [errW_none, errW_some] <;> rfl) | (simp [*, errW_none, errW_some] <;> rfl), HB_⟩

          rw [if_pos c74] at H
          have c74b0 : (a0_0 == 5) = true := beq_iff_eq.mpr c74
          have c74b1 : (a0_0 != 5) = false := bne_eq_false_iff_eq.mpr c74
          clear c74
          by_cases c75 : x5_6 = true
          · subst c75
            replace H := ps1_ H
            by_cases c76 : x6_6 = true
            · subst c76
              replace H := ps1_ H
              by_cases c77 : a0_1 = a0_2
              · rw [if_pos c77] at H
                have c77b0 : (a0_1 == a0_2) = true := beq_iff_eq.mpr c77
                have c77b1 : (a0_1 != a0_2) = false := bne_eq_false_iff_eq.mpr c77
                clear c77
                obtain rfl := Option.some.inj H
                have hcz78_0 : wc.cell? ⟨gb475, 0, none⟩ = some (.int .i64 a0_0) := (blk_cell BK475.out 0).trans rfl
                have hcz78_1 : wc.cell? ⟨gb475, 1, none⟩ = some (.int .i64 a0_1) := (blk_cell BK475.out 1).trans rfl
                have hcz78_2 : wc.cell? ⟨gb475, 2, none⟩ = some (.int .i64 a0_2) := (blk_cell BK475.out 2).trans rfl
                have hcz78_3 : wc.cell? ⟨gb475, 3, none⟩ = some (.int .i64 a0_3) := (blk_cell BK475.out 3).trans rfl
                have hcz78_4 : wc.cell? ⟨gb475, 4, none⟩ = some (.int .i64 a0_4) := (blk_cell BK475.out 4).trans rfl
                have hfz78_0 := blk_frozen BK475.out 0
                have hfz78_1 := blk_frozen BK475.out 1
                have hfz78_2 := blk_frozen BK475.out 2
                have hfz78_3 := blk_frozen BK475.out 3
                have hfz78_4 := blk_frozen BK475.out 4
                go_wp2
                repeat (go_quiet (fail); try go_wp2)
                go_ret
                exact ⟨by first | rfl | (simp [errW_none, errW_some] <;> rfl) | (simp [*, errW_none, errW_some] <;> rfl), HB_⟩
              rw [if_neg c77] at H
              have c77b0 : (a0_1 == a0_2) = false := beq_eq_false_iff_ne.mpr c77
              have c77b1 : (a0_1 != a0_2) = true := bne_iff_ne.mpr c77
              by_cases c79 : x7_6 = true
              · subst c79
                replace H := ps1_ H
                obtain rfl := Option.some.inj H
                have hcz80_0 : wc.cell? ⟨gb475, 0, none⟩ = some (.int .i64 a0_0) := (blk_cell BK475.out 0).trans rfl
                have hcz80_1 : wc.cell? ⟨gb475, 1, none⟩ = some (.int .i64 a0_1) := (blk_cell BK475.out 1).trans rfl
                have hcz80_2 : wc.cell? ⟨gb475, 2, none⟩ = some (.int .i64 a0_2) := (blk_cell BK475.out 2).trans rfl
                have hcz80_3 : wc.cell? ⟨gb475, 3, none⟩ = some (.int .i64 a0_3) := (blk_cell BK475.out 3).trans rfl
                have hcz80_4 : wc.cell? ⟨gb475, 4, none⟩ = some (.int .i64 a0_4) := (blk_cell BK475.out 4).trans rfl
                have hfz80_0 := blk_frozen BK475.out 0
                have hfz80_1 := blk_frozen BK475.out 1
                have hfz80_2 := blk_frozen BK475.out 2
                have hfz80_3 := blk_frozen BK475.out 3
                have hfz80_4 := blk_frozen BK475.out 4
                go_wp2
                repeat (go_quiet (fail); try go_wp2)
                go_ret
                exact ⟨by first | rfl | (simp [errW_none, errW_some] <;> rfl) | (simp [*, errW_none, errW_some] <;> rfl), HB_⟩
              replace c79 := Bool.eq_false_iff.mpr c79
              subst c79
              replace H := ng1_ H
              obtain rfl := Option.some.inj H
              have hcz81_0 : wc.cell? ⟨gb475, 0, none⟩ = some (.int .i64 a0_0) := (blk_cell BK475.out 0).trans rfl
              have hcz81_1 : wc.cell? ⟨gb475, 1, none⟩ = some (.int .i64 a0_1) := (blk_cell BK475.out 1).trans rfl
              have hcz81_2 : wc.cell? ⟨gb475, 2, none⟩ = some (.int .i64 a0_2) := (blk_cell BK475.out 2).trans rfl
              have hcz81_3 : wc.cell? ⟨gb475, 3, none⟩ = some (.int .i64 a0_3) := (blk_cell BK475.out 3).trans rfl
              have hcz81_4 : wc.cell? ⟨gb475, 4, none⟩ = some (.int .i64 a0_4) := (blk_cell BK475.out 4).trans rfl
              have hfz81_0 := blk_frozen BK475.out 0
              have hfz81_1 := blk_frozen BK475.out 1
              have hfz81_2 := blk_frozen BK475.out 2
              have hfz81_3 := blk_frozen BK475.out 3
              have hfz81_4 := blk_frozen BK475.out 4
              go_wp2
              repeat (go_quiet (fail); try go_wp2)
              go_ret
              exact ⟨by first | rfl | (simp [errW_none, errW_some] <;> rfl) | (simp [*, errW_none, errW_some] <;> rfl), HB_⟩
            replace c76 := Bool.eq_false_iff.mpr c76
            subst c76
            replace H := ng1_ H
            by_cases c82 : a0_2 = 0
            rotate_left
            · rw [if_neg c82] at H
              have c82b0 : (a0_2 == 0) = false := beq_eq_false_iff_ne.mpr c82
              have c82b1 : (a0_2 != 0) = true := bne_iff_ne.mpr c82
              obtain rfl := Option.some.inj H
              have hcz88_0 : wc.cell? ⟨gb475, 0, none⟩ = some (.int .i64 a0_0) := (blk_cell BK475.out 0).trans rfl
              have hcz88_1 : wc.cell? ⟨gb475, 1, none⟩ = some (.int .i64 a0_1) := (blk_cell BK475.out 1).trans rfl
              have hcz88_2 : wc.cell? ⟨gb475, 2, none⟩ = some (.int .i64 a0_2) := (blk_cell BK475.out 2).trans rfl
              have hcz88_3 : wc.cell? ⟨gb475, 3, none⟩ = some (.int .i64 a0_3) := (blk_cell BK475.out 3).trans rfl
              have hcz88_4 : wc.cell? ⟨gb475, 4, none⟩ = some (.int .i64 a0_4) := (blk_cell BK475.out 4).trans rfl
              have hfz88_0 := blk_frozen BK475.out 0
              have hfz88_1 := blk_frozen BK475.out 1
              have hfz88_2 := blk_frozen BK475.out 2
              have hfz88_3 := blk_frozen BK475.out 3
              have hfz88_4 := blk_frozen BK475.out 4
              go_wp2
              repeat (go_quiet (fail); try go_wp2)
              go_ret
              exact ⟨by first | rfl | (simp [errW_none, errW_some] <;> rfl) | (simp [*, errW_none, errW_some] <;> rfl), HB_⟩
            rw [if_pos c82] at H
            have c82b0 : (a0_2 == 0) = true := beq_iff_eq.mpr c82
            have c82b1 : (a0_2 != 0) = false := bne_eq_false_iff_eq.mpr c82
            clear c82
            by_cases c83 : a0_1 = a0_2
            · rw [if_pos c83] at H
              have c83b0 : (a0_1 == a0_2) = true := beq_iff_eq.mpr c83
              have c83b1 : (a0_1 != a0_2) = false := bne_eq_false_iff_eq.mpr c83
              clear c83
              obtain rfl := Option.some.inj H
              have hcz84_0 : wc.cell? ⟨gb475, 0, none⟩ = some (.int .i64 a0_0) := (blk_cell BK475.out 0).trans rfl
              have hcz84_1 : wc.cell? ⟨gb475, 1, none⟩ = some (.int .i64 a0_1) := (blk_cell BK475.out 1).trans rfl
              have hcz84_2 : wc.cell? ⟨gb475, 2, none⟩ = some (.int .i64 a0_2) := (blk_cell BK475.out 2).trans rfl
              have hcz84_3 : wc.cell? ⟨gb475, 3, none⟩ = some (.int .i64 a0_3) := (blk_cell BK475.out 3).trans rfl
              have hcz84_4 : wc.cell? ⟨gb475, 4, none⟩ = some (.int .i64 a0_4) := (blk_cell BK475.out 4).trans rfl
              have hfz84_0 := blk_frozen BK475.out 0
              have hfz84_1 := blk_frozen BK475.out 1
              have hfz84_2 := blk_frozen BK475.out 2
              have hfz84_3 := blk_frozen BK475.out 3
              have hfz84_4 := blk_frozen BK475.out 4
              go_wp2
              repeat (go_quiet (fail); try go_wp2)
              go_ret
              exact ⟨by first | rfl | (simp [errW_none, errW_some] <;> rfl) | (simp [*, errW_none, errW_some] <;> rfl), HB_⟩
            rw [if_neg c83] at H
            have c83b0 : (a0_1 == a0_2) = false := beq_eq_false_iff_ne.mpr c83
            have c83b1 : (a0_1 != a0_2) = true := bne_iff_ne.mpr c83
            by_cases c85 : x7_6 = true
            · subst c85
              replace H := ps1_ H
              obtain rfl := Option.some.inj H
              have hcz86_0 : wc.cell? ⟨gb475, 0, none⟩ = some (.int .i64 a0_0) := (blk_cell BK475.out 0).trans rfl
              have hcz86_1 : wc.cell? ⟨gb475, 1, none⟩ = some (.int .i64 a0_1) := (blk_cell BK475.out 1).trans rfl
              have hcz86_2 : wc.cell? ⟨gb475, 2, none⟩ = some (.int .i64 a0_2) := (blk_cell BK475.out 2).trans rfl
              have hcz86_3 : wc.cell? ⟨gb475, 3, none⟩ = some (.int .i64 a0_3) := (blk_cell BK475.out 3).trans rfl
              have hcz86_4 : wc.cell? ⟨gb475, 4, none⟩ = some (.int .i64 a0_4) := (blk_cell BK475.out 4).trans rfl
              have hfz86_0 := blk_frozen BK475.out 0
              have hfz86_1 := blk_frozen BK475.out 1
              have hfz86_2 := blk_frozen BK475.out 2
              have hfz86_3 := blk_frozen BK475.out 3
              have hfz86_4 := blk_frozen BK475.out 4
              go_wp2
              repeat (go_quiet (fail); try go_wp2)
              go_ret
              exact ⟨by first | rfl | (simp [errW_none, errW_some] <;> rfl) | (simp [*, errW_none, errW_some] <;> rfl), HB_⟩
            replace c85 := Bool.eq_false_iff.mpr c85
            subst c85
            replace H := ng1_ H
            obtain rfl := Option.some.inj H
            have hcz87_0 : wc.cell? ⟨gb475, 0, none⟩ = some (.int .i64 a0_0) := (blk_cell BK475.out 0).trans rfl
            have hcz87_1 : wc.cell? ⟨gb475, 1, none⟩ = some (.int .i64 a0_1) := (blk_cell BK475.out 1).trans rfl
            have hcz87_2 : wc.cell? ⟨gb475, 2, none⟩ = some (.int .i64 a0_2) := (blk_cell BK475.out 2).trans rfl
            have hcz87_3 : wc.cell? ⟨gb475, 3, none⟩ = some (.int .i64 a0_3) := (blk_cell BK475.out 3).trans rfl
            have hcz87_4 : wc.cell? ⟨gb475, 4, none⟩ = some (.int .i64 a0_4) := (blk_cell BK475.out 4).trans rfl
            have hfz87_0 := blk_frozen BK475.out 0
            have hfz87_1 := blk_frozen BK475.out 1
            have hfz87_2 := blk_frozen BK475.out 2
            have hfz87_3 := blk_frozen BK475.out 3
            have hfz87_4 := blk_frozen BK475.out 4
            go_wp2
            repeat (go_quiet (fail); try go_wp2)
            go_ret
            exact ⟨by first | rfl | (simp [errW_none, errW_some] <;> rfl) | (simp [*, errW_none, errW_some] <;> rfl), HB_⟩
          replace c75 := Bool.eq_false_iff.mpr c75
          subst c75
          replace H := ng1_ H
          by_cases c89 : a0_1 = 0
          rotate_left
          · rw [if_neg c89] at H
            have c89b0 : (a0_1 == 0) = false := beq_eq_false_iff_ne.mpr c89
            have c89b1 : (a0_1 != 0) = true := bne_iff_ne.mpr c89
            obtain rfl := Option.some.inj H
            have hcz103_0 : wc.cell? ⟨gb475, 0, none⟩ = some (.int .i64 a0_0) := (blk_cell BK475.out 0).trans rfl
            have hcz103_1 : wc.cell? ⟨gb475, 1, none⟩ = some (.int .i64 a0_1) := (blk_cell BK475.out 1).trans rfl
            have hcz103_2 : wc.cell? ⟨gb475, 2, none⟩ = some (.int .i64 a0_2) := (blk_cell BK475.out 2).trans rfl
            have hcz103_3 : wc.cell? ⟨gb475, 3, none⟩ = some (.int .i64 a0_3) := (blk_cell BK475.out 3).trans rfl
            have hcz103_4 : wc.cell? ⟨gb475, 4, none⟩ = some (.int .i64 a0_4) := (blk_cell BK475.out 4).trans rfl
            have hfz103_0 := blk_frozen BK475.out 0
            have hfz103_1 := blk_frozen BK475.out 1
            have hfz103_2 := blk_frozen BK475.out 2
            have hfz103_3 := blk_frozen BK475.out 3
            have hfz103_4 := blk_frozen BK475.out 4
            go_wp2
            repeat (go_quiet (fail); try go_wp2)
            go_ret
            exact ⟨by first | rfl | (simp [errW_none, errW_some] <;> rfl) | (simp [*, errW_none, errW_some] <;> rfl), HB_⟩
          rw [if_pos c89] at H
          have c89b0 : (a0_1 == 0) = true := beq_iff_eq.mpr c89
          have c89b1 : (a0_1 != 0) = false := bne_eq_false_iff_eq.mpr c89
          clear c89
          by_cases c90 : x6_6 = true
          · subst c90
            replace H := ps1_ H
            by_cases c91 : a0_1 = a0_2
            · rw [if_pos c91] at H
              have c91b0 : (a0_1 == a0_2) = true := beq_iff_eq.mpr c91
              have c91b1 : (a0_1 != a0_2) = false := bne_eq_false_iff_eq.mpr c91
              clear c91
              obtain rfl := Option.some.inj H
              have hcz92_0 : wc.cell? ⟨gb475, 0, none⟩ = some (.int .i64 a0_0) := (blk_cell BK475.out 0).trans rfl
              have hcz92_1 : wc.cell? ⟨gb475, 1, none⟩ = some (.int .i64 a0_1) := (blk_cell BK475.out 1).trans rfl
              have hcz92_2 : wc.cell? ⟨gb475, 2, none⟩ = some (.int .i64 a0_2) := (blk_cell BK475.out 2).trans rfl
              have hcz92_3 : wc.cell? ⟨gb475, 3, none⟩ = some (.int .i64 a0_3) := (blk_cell BK475.out 3).trans rfl
              have hcz92_4 : wc.cell? ⟨gb475, 4, none⟩ = some (.int .i64 a0_4) := (blk_cell BK475.out 4).trans rfl
              have hfz92_0 := blk_frozen BK475.out 0
              have hfz92_1 := blk_frozen BK475.out 1
              have hfz92_2 := blk_frozen BK475.out 2
              have hfz92_3 := blk_frozen BK475.out 3
              have hfz92_4 := blk_frozen BK475.out 4
              go_wp2
              repeat (go_quiet (fail); try go_wp2)
              go_ret
              exact ⟨by first | rfl | (simp [errW_none, errW_some] <;> rfl) | (simp [*, errW_none, errW_some] <;> rfl), HB_⟩
            rw [if_neg c91] at H
            have c91b0 : (a0_1 == a0_2) = false := beq_eq_false_iff_ne.mpr c91
            have c91b1 : (a0_1 != a0_2) = true := bne_iff_ne.mpr c91
            by_cases c93 : x7_6 = true
            · subst c93
              replace H := ps1_ H
              obtain rfl := Option.some.inj H
              have hcz94_0 : wc.cell? ⟨gb475, 0, none⟩ = some (.int .i64 a0_0) := (blk_cell BK475.out 0).trans rfl
              have hcz94_1 : wc.cell? ⟨gb475, 1, none⟩ = some (.int .i64 a0_1) := (blk_cell BK475.out 1).trans rfl
              have hcz94_2 : wc.cell? ⟨gb475, 2, none⟩ = some (.int .i64 a0_2) := (blk_cell BK475.out 2).trans rfl
              have hcz94_3 : wc.cell? ⟨gb475, 3, none⟩ = some (.int .i64 a0_3) := (blk_cell BK475.out 3).trans rfl
              have hcz94_4 : wc.cell? ⟨gb475, 4, none⟩ = some (.int .i64 a0_4) := (blk_cell BK475.out 4).trans rfl
              have hfz94_0 := blk_frozen BK475.out 0
              have hfz94_1 := blk_frozen BK475.out 1
              have hfz94_2 := blk_frozen BK475.out 2
              have hfz94_3 := blk_frozen BK475.out 3
              have hfz94_4 := blk_frozen BK475.out 4
              go_wp2
              repeat (go_quiet (fail); try go_wp2)
              go_ret
              exact ⟨by first | rfl | (simp [errW_none, errW_some] <;> rfl) | (simp [*, errW_none, errW_some] <;> rfl), HB_⟩
            replace c93 := Bool.eq_false_iff.mpr c93
            subst c93
            replace H := ng1_ H
            obtain rfl := Option.some.inj H
            have hcz95_0 : wc.cell? ⟨gb475, 0, none⟩ = some (.int .i64 a0_0) := (blk_cell BK475.out 0).trans rfl
            have hcz95_1 : wc.cell? ⟨gb475, 1, none⟩ = some (.int .i64 a0_1) := (blk_cell BK475.out 1).trans rfl
            have hcz95_2 : wc.cell? ⟨gb475, 2, none⟩ = some (.int .i64 a0_2) := (blk_cell BK475.out 2).trans rfl
            have hcz95_3 : wc.cell? ⟨gb475, 3, none⟩ = some (.int .i64 a0_3) := (blk_cell BK475.out 3).trans rfl
            have hcz95_4 : wc.cell? ⟨gb475, 4, none⟩ = some (.int .i64 a0_4) := (blk_cell BK475.out 4).trans rfl
            have hfz95_0 := blk_frozen BK475.out 0
            have hfz95_1 := blk_frozen BK475.out 1
            have hfz95_2 := blk_frozen BK475.out 2
            have hfz95_3 := blk_frozen BK475.out 3
            have hfz95_4 := blk_frozen BK475.out 4
            go_wp2
            repeat (go_quiet (fail); try go_wp2)
            go_ret
            exact ⟨by first | rfl | (simp [errW_none, errW_some] <;> rfl) | (simp [*, errW_none, errW_some] <;> rfl), HB_⟩
          replace c90 := Bool.eq_false_iff.mpr c90
          subst c90
          replace H := ng1_ H
          by_cases c96 : a0_2 = 0
          rotate_left
          · rw [if_neg c96] at H
            have c96b0 : (a0_2 == 0) = false := beq_eq_false_iff_ne.mpr c96
            have c96b1 : (a0_2 != 0) = true := bne_iff_ne.mpr c96
            obtain rfl := Option.some.inj H
            have hcz102_0 : wc.cell? ⟨gb475, 0, none⟩ = some (.int .i64 a0_0) := (blk_cell BK475.out 0).trans rfl
            have hcz102_1 : wc.cell? ⟨gb475, 1, none⟩ = some (.int .i64 a0_1) := (blk_cell BK475.out 1).trans rfl
            have hcz102_2 : wc.cell? ⟨gb475, 2, none⟩ = some (.int .i64 a0_2) := (blk_cell BK475.out 2).trans rfl
            have hcz102_3 : wc.cell? ⟨gb475, 3, none⟩ = some (.int .i64 a0_3) := (blk_cell BK475.out 3).trans rfl
            have hcz102_4 : wc.cell? ⟨gb475, 4, none⟩ = some (.int .i64 a0_4) := (blk_cell BK475.out 4).trans rfl
            have hfz102_0 := blk_frozen BK475.out 0
            have hfz102_1 := blk_frozen BK475.out 1
            have hfz102_2 := blk_frozen BK475.out 2
            have hfz102_3 := blk_frozen BK475.out 3
            have hfz102_4 := blk_frozen BK475.out 4
            go_wp2
            repeat (go_quiet (fail); try go_wp2)
            go_ret
            exact ⟨by first | rfl | (simp [errW_none, errW_some] <;> rfl) | (simp [*, errW_none, errW_some] <;> rfl), HB_⟩
          rw [if_pos c96] at H
          have c96b0 : (a0_2 == 0) = true := beq_iff_eq.mpr c96
          have c96b1 : (a0_2 != 0) = false := bne_eq_false_iff_eq.mpr c96
          clear c96
          by_cases c97 : a0_1 = a0_2
          · rw [if_pos c97] at H
            have c97b0 : (a0_1 == a0_2) = true := beq_iff_eq.mpr c97
            have c97b1 : (a0_1 != a0_2) = false := bne_eq_false_iff_eq.mpr c97
            clear c97
            obtain rfl := Option.some.inj H
            have hcz98_0 : wc.cell? ⟨gb475, 0, none⟩ = some (.int .i64 a0_0) := (blk_cell BK475.out 0).trans rfl
            have hcz98_1 : wc.cell? ⟨gb475, 1, none⟩ = some (.int .i64 a0_1) := (blk_cell BK475.out 1).trans rfl
            have hcz98_2 : wc.cell? ⟨gb475, 2, none⟩ = some (.int .i64 a0_2) := (blk_cell BK475.out 2).trans rfl
            have hcz98_3 : wc.cell? ⟨gb475, 3, none⟩ = some (.int .i64 a0_3) := (blk_cell BK475.out 3).trans rfl
            have hcz98_4 : wc.cell? ⟨gb475, 4, none⟩ = some (.int .i64 a0_4) := (blk_cell BK475.out 4).trans rfl
            have hfz98_0 := blk_frozen BK475.out 0
            have hfz98_1 := blk_frozen BK475.out 1
            have hfz98_2 := blk_frozen BK475.out 2
            have hfz98_3 := blk_frozen BK475.out 3
            have hfz98_4 := blk_frozen BK475.out 4
            go_wp2
            repeat (go_quiet (fail); try go_wp2)
            go_ret
            exact ⟨by first | rfl | (simp [errW_none, errW_some] <;> rfl) | (simp [*, errW_none, errW_some] <;> rfl), HB_⟩
          rw [if_neg c97] at H
          have c97b0 : (a0_1 == a0_2) = false := beq_eq_false_iff_ne.mpr c97
          have c97b1 : (a0_1 != a0_2) = true := bne_iff_ne.mpr c97
          by_cases c99 : x7_6 = true
          · subst c99
            replace H := ps1_ H
            obtain rfl := Option.some.inj H
            have hcz100_0 : wc.cell? ⟨gb475, 0, none⟩ = some (.int .i64 a0_0) := (blk_cell BK475.out 0).trans rfl
            have hcz100_1 : wc.cell? ⟨gb475, 1, none⟩ = some (.int .i64 a0_1) := (blk_cell BK475.out 1).trans rfl
            have hcz100_2 : wc.cell? ⟨gb475, 2, none⟩ = some (.int .i64 a0_2) := (blk_cell BK475.out 2).trans rfl
            have hcz100_3 : wc.cell? ⟨gb475, 3, none⟩ = some (.int .i64 a0_3) := (blk_cell BK475.out 3).trans rfl
            have hcz100_4 : wc.cell? ⟨gb475, 4, none⟩ = some (.int .i64 a0_4) := (blk_cell BK475.out 4).trans rfl
            have hfz100_0 := blk_frozen BK475.out 0
            have hfz100_1 := blk_frozen BK475.out 1
            have hfz100_2 := blk_frozen BK475.out 2
            have hfz100_3 := blk_frozen BK475.out 3
            have hfz100_4 := blk_frozen BK475.out 4
            go_wp2
            repeat (go_quiet (fail); try go_wp2)
            go_ret
            exact ⟨by first | rfl | (simp [errW_none, errW_some] <;> rfl) | (simp [*, errW_none, errW_some] <;> rfl), HB_⟩
          replace c99 := Bool.eq_false_iff.mpr c99
          subst c99
          replace H := ng1_ H
          obtain rfl := Option.some.inj H
          have hcz101_0 : wc.cell? ⟨gb475, 0, none⟩ = some (.int .i64 a0_0) := (blk_cell BK475.out 0).trans rfl
          have hcz101_1 : wc.cell? ⟨gb475, 1, none⟩ = some (.int .i64 a0_1) := (blk_cell BK475.out 1).trans rfl
          have hcz101_2 : wc.cell? ⟨gb475, 2, none⟩ = some (.int .i64 a0_2) := (blk_cell BK475.out 2).trans rfl
          have hcz101_3 : wc.cell? ⟨gb475, 3, none⟩ = some (.int .i64 a0_3) := (blk_cell BK475.out 3).trans rfl
          have hcz101_4 : wc.cell? ⟨gb475, 4, none⟩ = some (.int .i64 a0_4) := (blk_cell BK475.out 4).trans rfl
          have hfz101_0 := blk_frozen BK475.out 0
          have hfz101_1 := blk_frozen BK475.out 1
          have hfz101_2 := blk_frozen BK475.out 2
          have hfz101_3 := blk_frozen BK475.out 3
          have hfz101_4 := blk_frozen BK475.out 4
          go_wp2
          repeat (go_quiet (fail); try go_wp2)
          go_ret
          exact ⟨by first | rfl | (simp [errW_none, errW_some] <;> rfl) | (simp [*, errW_none, errW_some] <;> rfl), HB_⟩
end Go.Proofs.Ytgeemdpflcefkaa.Y
