import Derived.Test.YtpcpbeklaibdfaaCx0
import Derived.Test.YtpcpbeklaibdfaaCx1
import Derived.Test.YtpcpbeklaibdfaaCx40
namespace Go.Proofs.Ytpcpbeklaibdfaa.C
open Go.RowKit Go.Proofs.YtpcpbeklaibdfaaW.PrintWords Go.Proofs.YtpcpbeklaibdfaaW.PrintLast Go.Proofs.YtpcpbeklaibdfaaW.PrintMore
attribute [local go_sem] max2_int min2_int max_two min_two max_three min_three max_four min_four   -- for this text's walks alone
set_option linter.unusedVariables false
set_option linter.unusedSimpArgs false
attribute [local go_sem high] eqA55
mutual
def warrantorref11_Right.j0 : Nat → Int → Bool → Int → Int → Int → Int → Int → Option (Bool)
 | 0, _, _, _, _, _, _, _ => none
 | k + 1, x1, x13, x228000, x228001, x228002, x228003, x228004 => if x13 = true then (some false) else (if x228001 ≥ 1 then (if x228002 ≥ 1 then ((warrantorref06_Is.f x228003).bind fun t228 => (warrantorref11_Right.j1 k (decide (x228001 ≤ x1)) (decide (x228002 ≤ x1)) t228 x228000 x228001 x228002 x228003 x228004)) else ((warrantorref06_Is.f x228003).bind fun t229 => (warrantorref11_Right.j1 k (decide (x228001 ≤ x1)) false t229 x228000 x228001 x228002 x228003 x228004))) else (if x228002 ≥ 1 then ((warrantorref06_Is.f x228003).bind fun t230 => (warrantorref11_Right.j1 k false (decide (x228002 ≤ x1)) t230 x228000 x228001 x228002 x228003 x228004)) else ((warrantorref06_Is.f x228003).bind fun t231 => (warrantorref11_Right.j1 k false false t231 x228000 x228001 x228002 x228003 x228004))))
def warrantorref11_Right.j1 : Nat → Bool → Bool → Bool → Int → Int → Int → Int → Int → Option (Bool)
 | 0, _, _, _, _, _, _, _, _ => none
 | k + 1, x5, x6, x7, x228000, x228001, x228002, x228003, x228004 => if x228000 = 1 then (some (x228000 == 1 && (x228001 == 0 && (x228002 == 0 && (x228003 == 0 && (x228004 == 0)))))) else (if x228000 = 2 then (if x5 = true then (if x6 = true then (if x7 = true then (some (x228004 == 0)) else (some false)) else (if x228002 = 0 then (if x7 = true then (some (x228004 == 0)) else (some false)) else (some false))) else (some false)) else (if x228000 = 3 then (if x5 = true then (if x228002 = 0 then (if x7 = true then ((warrantorref06_Is.f x228004).bind fun t232 => (if t232 = true then (some (decide (x228003 ≤ x228004))) else (some false))) else (some false)) else (some false)) else (some false)) else (if x228000 = 4 then (if x5 = true then (if x6 = true then (if x228001 = x228002 then (some false) else (if x7 = true then (some (x228004 == 0)) else (some false))) else (if x228002 = 0 then (if x228001 = x228002 then (some false) else (if x7 = true then (some (x228004 == 0)) else (some false))) else (some false))) else (if x228001 = 0 then (if x6 = true then (if x228001 = x228002 then (some false) else (if x7 = true then (some (x228004 == 0)) else (some false))) else (if x228002 = 0 then (if x228001 = x228002 then (some false) else (if x7 = true then (some (x228004 == 0)) else (some false))) else (some false))) else (some false))) else (if x228000 = 5 then (if x5 = true then (if x6 = true then (if x228001 = x228002 then (some false) else (if x7 = true then (some (x228004 == 0)) else (some false))) else (if x228002 = 0 then (if x228001 = x228002 then (some false) else (if x7 = true then (some (x228004 == 0)) else (some false))) else (some false))) else (if x228001 = 0 then (if x6 = true then (if x228001 = x228002 then (some false) else (if x7 = true then (some (x228004 == 0)) else (some false))) else (if x228002 = 0 then (if x228001 = x228002 then (some false) else (if x7 = true then (some (x228004 == 0)) else (some false))) else (some false))) else (some false))) else (some false)))))
end
def warrantorref11_Right.f (k : Nat) (a0_0 : Int) (a0_1 : Int) (a0_2 : Int) (a0_3 : Int) (a0_4 : Int) (a1 : Int) : Option (Bool) := if a1 < 0 then (warrantorref11_Right.j0 k a1 true a0_0 a0_1 a0_2 a0_3 a0_4) else (warrantorref11_Right.j0 k a1 (decide (a1 > 8)) a0_0 a0_1 a0_2 a0_3 a0_4)
set_option maxHeartbeats 8000000 in
set_option maxRecDepth 100000 in
theorem warrantorref11_Right.calls (k : Nat) (a0_0 : Int) (a0_1 : Int) (a0_2 : Int) (a0_3 : Int) (a0_4 : Int) (a1 : Int) (r : Bool) (w : World) (h : warrantorref11_Right.f k a0_0 a0_1 a0_2 a0_3 a0_4 a1 = some r) :
  Calls Try.prog 28 #[.agg #[.int .i64 a0_0, .int .i64 a0_1, .int .i64 a0_2, .int .i64 a0_3, .int .i64 a0_4], .int .i64 a1] w fun e w' => e = .returned (.bool r) ∧ Below w.heap.size w w' := by
 have hu55 := Try.underlying55
 have HB := Aside0.mk (Below.refl w.heap.size w)
 have H : (if a1 < 0 then (warrantorref11_Right.j0 k a1 true a0_0 a0_1 a0_2 a0_3 a0_4) else (warrantorref11_Right.j0 k a1 (decide (a1 > 8)) a0_0 a0_1 a0_2 a0_3 a0_4)) = some r := h
 clear h
 have HC3 := Aside0.mk H
 clear H
 go_enter Try.func28, Try.ntmps28
 go_upto_region 1 with (first | ((with_reducible refine gate_dst (N := 2) rfl ?_); refine bx_ (N := 2) (cs := #[.int .i64 a0_0, .int .i64 a0_1, .int .i64 a0_2, .int .i64 a0_3, .int .i64 a0_4]) (t := 55) ?_; intro gb227 hg w4 hbox hb; have n_ := a_ (bs_ HB hb) (a_ (Aside0.mk hbox) (a_ (gs_ HB hg) (gs_ HB hg))); clear HB; obtain ⟨HB, BK227, GW227, GE227⟩ := n_; clear hb hbox hg))
 repeat (go_quiet (first | ((with_reducible refine gate_dst (N := 2) rfl ?_); refine bx_ (N := 2) (cs := #[.int .i64 a0_0, .int .i64 a0_1, .int .i64 a0_2, .int .i64 a0_3, .int .i64 a0_4]) (t := 55) ?_; intro gb227 hg w4 hbox hb; have n_ := a_ (bs_ HB hb) (a_ (Aside0.mk hbox) (a_ (gs_ HB hg) (gs_ HB hg))); clear HB; obtain ⟨HB, BK227, GW227, GE227⟩ := n_; clear hb hbox hg)); go_upto_region 1 with (first | ((with_reducible refine gate_dst (N := 2) rfl ?_); refine bx_ (N := 2) (cs := #[.int .i64 a0_0, .int .i64 a0_1, .int .i64 a0_2, .int .i64 a0_3, .int .i64 a0_4]) (t := 55) ?_; intro gb227 hg w4 hbox hb; have n_ := a_ (bs_ HB hb) (a_ (Aside0.mk hbox) (a_ (gs_ HB hg) (gs_ HB hg))); clear HB; obtain ⟨HB, BK227, GW227, GE227⟩ := n_; clear hb hbox hg)))
 (try simp only [Act.put, List.setIfInBounds_toArray, List.set_cons_zero, List.set_cons_succ])
 go_cut [13] (fun v13 wc => ∃ (kq : Nat) (x13_2 : Bool), v13 = .bool x13_2 ∧ Aside0 (warrantorref11_Right.j0 kq a1 x13_2 a0_0 a0_1 a0_2 a0_3 a0_4 = some r) ∧ Aside0 (kq ≤ k) ∧ Aside0 (wc.heap[gb227]? = some (.cells #[.int .i64 a0_0, .int .i64 a0_1, .int .i64 a0_2, .int .i64 a0_3, .int .i64 a0_4] 55 (0, 0))) ∧ Aside0 (Below w.heap.size w wc))
 case first =>
  have H := HC3.out
  clear HC3
  by_cases c5 : a1 < 0
  rotate_left
  · rw [if_neg c5] at H
    have c5b0 : decide (a1 < 0) = false := decide_eq_false c5
    clear c5
    (first | rw [c5b0] | (simp only [i64_w, i32_w]; rw [c5b0]) | skip)
    have H' := Aside0.mk H
    clear H
    go_wp2
    repeat (go_quiet (fail); try go_wp2)
    go_meet
    case rel => exact ⟨_, (decide (a1 > 8)), (by first | rfl | (simp; done) | (simp [*]; done)), H', ⟨by first | omega | exact Nat.le_refl _⟩, ⟨by (with_reducible repeat (first | refine blk_drewN ?_ _ | refine blk_drew ?_ | refine blk_alloc ?_ _)); exact BK227.out⟩, ⟨HB_⟩⟩
  rw [if_pos c5] at H
  have c5b0 : decide (a1 < 0) = true := decide_eq_true c5
  clear c5
  (first | rw [c5b0] | (simp only [i64_w, i32_w]; rw [c5b0]) | skip)
  have H' := Aside0.mk H
  clear H
  go_wp2
  repeat (go_quiet (fail); try go_wp2)
  go_meet
  case rel => exact ⟨_, (true), (by first | rfl | (simp; done) | (simp [*]; done)), H', ⟨by first | omega | exact Nat.le_refl _⟩, ⟨by (with_reducible repeat (first | refine blk_drewN ?_ _ | refine blk_drew ?_ | refine blk_alloc ?_ _)); exact BK227.out⟩, ⟨HB_⟩⟩
 case rest =>
  clear HC3
  try clear c2
  try clear p2
  try clear c5
  try clear c5b0
  obtain ⟨kq, x13_2, rfl, HA, HJ2, BK227, HB⟩ := hcut
  cases kq with
  | zero => exact absurd HA.out (by simp [warrantorref11_Right.j0])
  | succ kj2 =>
    have H := HA.out
    clear HA
    simp only [warrantorref11_Right.j0] at H
    by_cases c6 : x13_2 = true
    · subst c6
      replace H := ps1_ H
      obtain rfl := Option.some.inj H
      go_wp2
      repeat (go_quiet (fail); try go_wp2)
      go_ret
      exact ⟨by first | rfl | (simp [errW_none, errW_some] <;> rfl) | (simp [*, errW_none, errW_some] <;> rfl), HB_⟩
    replace c6 := Bool.eq_false_iff.mpr c6
    subst c6
    replace H := ng1_ H
    have HC7 := Aside0.mk H
    clear H
    go_upto_region 3 with (fail)
    repeat (go_quiet (fail); go_upto_region 3 with (fail))
    go_cut [5, 6, 7] (fun v5 v6 v7 wc => ∃ (kq : Nat) (x5_6 : Bool) (x6_6 : Bool) (x7_6 : Bool), v5 = .bool x5_6 ∧ v6 = .bool x6_6 ∧ v7 = .bool x7_6 ∧ Aside0 (warrantorref11_Right.j1 kq x5_6 x6_6 x7_6 a0_0 a0_1 a0_2 a0_3 a0_4 = some r) ∧ Aside0 (kq ≤ kj2) ∧ Aside0 (wc.heap[gb227]? = some (.cells #[.int .i64 a0_0, .int .i64 a0_1, .int .i64 a0_2, .int .i64 a0_3, .int .i64 a0_4] 55 (0, 0))) ∧ Aside0 (Below w.heap.size w wc))
    case first =>
      have H := HC7.out
      clear HC7
      by_cases c8 : a0_1 ≥ 1
      rotate_left
      · rw [if_neg c8] at H
        have c8b0 : decide (1 ≤ a0_1) = false := decide_eq_false c8
        clear c8
        (first | rw [c8b0] | (simp only [i64_w, i32_w]; rw [c8b0]) | skip)
        by_cases c14 : a0_2 ≥ 1
        rotate_left
        · rw [if_neg c14] at H
          have c14b0 : decide (1 ≤ a0_2) = false := decide_eq_false c14
          clear c14
          replace H := bd_ H
          obtain ⟨t231, A17, H⟩ := H
          (try dsimp only at H)
          have H' := Aside0.mk H
          clear H
          obtain ⟨hcz18_0, hcz18_1, hcz18_2, hcz18_3, hcz18_4, hfz18_0, hfz18_1, hfz18_2, hfz18_3, hfz18_4⟩ := cz5_ BK227
          go_wp2_with (first | (go_at_call 32; (with_reducible refine (warrantorref06_Is.calls a0_3 t231 _ A17.out).mono ?_); rintro e w' ⟨rfl, ⟨nd, rfl⟩⟩; (try first | exact ⟨rfl, _, World.drewN_drewN _ _ _⟩ | exact ⟨rfl, _, Eq.trans (World.drewN_drewN _ _ _) (congrArg (World.drewN _) (Nat.add_assoc _ _ _))⟩)))
          repeat (go_quiet (first | (go_at_call 32; (with_reducible refine (warrantorref06_Is.calls a0_3 t231 _ A17.out).mono ?_); rintro e w' ⟨rfl, ⟨nd, rfl⟩⟩; (try first | exact ⟨rfl, _, World.drewN_drewN _ _ _⟩ | exact ⟨rfl, _, Eq.trans (World.drewN_drewN _ _ _) (congrArg (World.drewN _) (Nat.add_assoc _ _ _))⟩))); try go_wp2_with (first | (go_at_call 32; (with_reducible refine (warrantorref06_Is.calls a0_3 t231 _ A17.out).mono ?_); rintro e w' ⟨rfl, ⟨nd, rfl⟩⟩; (try first | exact ⟨rfl, _, World.drewN_drewN _ _ _⟩ | exact ⟨rfl, _, Eq.trans (World.drewN_drewN _ _ _) (congrArg (World.drewN _) (Nat.add_assoc _ _ _))⟩))))
          go_meet
          case rel => exact ⟨_, (false), (false), (t231), (by first | rfl | (simp; done) | (simp [*]; done)), (by first | rfl | (simp; done) | (simp [*]; done)), (by first | rfl | (simp; done) | (simp [*]; done)), H', ⟨by have := HJ2.out; first | omega | exact Nat.le_refl _⟩, ⟨by (with_reducible repeat (first | refine blk_drewN ?_ _ | refine blk_drew ?_ | refine blk_alloc ?_ _)); exact BK227.out⟩, ⟨HB_⟩⟩
        rw [if_pos c14] at H
        have c14b0 : decide (1 ≤ a0_2) = true := decide_eq_true c14
        clear c14
        replace H := bd_ H
        obtain ⟨t230, A15, H⟩ := H
        (try dsimp only at H)
        have H' := Aside0.mk H
        clear H
        obtain ⟨hcz16_0, hcz16_1, hcz16_2, hcz16_3, hcz16_4, hfz16_0, hfz16_1, hfz16_2, hfz16_3, hfz16_4⟩ := cz5_ BK227
        go_wp2_with (first | (go_at_call 32; (with_reducible refine (warrantorref06_Is.calls a0_3 t230 _ A15.out).mono ?_); rintro e w' ⟨rfl, ⟨nd, rfl⟩⟩; (try first | exact ⟨rfl, _, World.drewN_drewN _ _ _⟩ | exact ⟨rfl, _, Eq.trans (World.drewN_drewN _ _ _) (congrArg (World.drewN _) (Nat.add_assoc _ _ _))⟩)))
        repeat (go_quiet (first | (go_at_call 32; (with_reducible refine (warrantorref06_Is.calls a0_3 t230 _ A15.out).mono ?_); rintro e w' ⟨rfl, ⟨nd, rfl⟩⟩; (try first | exact ⟨rfl, _, World.drewN_drewN _ _ _⟩ | exact ⟨rfl, _, Eq.trans (World.drewN_drewN _ _ _) (congrArg (World.drewN _) (Nat.add_assoc _ _ _))⟩))); try go_wp2_with (first | (go_at_call 32; (with_reducible refine (warrantorref06_Is.calls a0_3 t230 _ A15.out).mono ?_); rintro e w' ⟨rfl, ⟨nd, rfl⟩⟩; (try first | exact ⟨rfl, _, World.drewN_drewN _ _ _⟩ | exact ⟨rfl, _, Eq.trans (World.drewN_drewN _ _ _) (congrArg (World.drewN _) (Nat.add_assoc _ _ _))⟩))))
        go_meet
        case rel => exact ⟨_, (false), (decide (a0_2 ≤ a1)), (t230), (by first | rfl | (simp; done) | (simp [*]; done)), (by first | rfl | (simp; done) | (simp [*]; done)), (by first | rfl | (simp; done) | (simp [*]; done)), H', ⟨by have := HJ2.out; first | omega | exact Nat.le_refl _⟩, ⟨by (with_reducible repeat (first | refine blk_drewN ?_ _ | refine blk_drew ?_ | refine blk_alloc ?_ _)); exact BK227.out⟩, ⟨HB_⟩⟩
      rw [if_pos c8] at H
      have c8b0 : decide (1 ≤ a0_1) = true := decide_eq_true c8
      clear c8
      (first | rw [c8b0] | (simp only [i64_w, i32_w]; rw [c8b0]) | skip)
      by_cases c9 : a0_2 ≥ 1
      rotate_left
      · rw [if_neg c9] at H
        have c9b0 : decide (1 ≤ a0_2) = false := decide_eq_false c9
        clear c9
        replace H := bd_ H
        obtain ⟨t229, A12, H⟩ := H
        (try dsimp only at H)
        have H' := Aside0.mk H
        clear H
        obtain ⟨hcz13_0, hcz13_1, hcz13_2, hcz13_3, hcz13_4, hfz13_0, hfz13_1, hfz13_2, hfz13_3, hfz13_4⟩ := cz5_ BK227
        go_wp2_with (first | (go_at_call 32; (with_reducible refine (warrantorref06_Is.calls a0_3 t229 _ A12.out).mono ?_); rintro e w' ⟨rfl, ⟨nd, rfl⟩⟩; (try first | exact ⟨rfl, _, World.drewN_drewN _ _ _⟩ | exact ⟨rfl, _, Eq.trans (World.drewN_drewN _ _ _) (congrArg (World.drewN _) (Nat.add_assoc _ _ _))⟩)))
        repeat (go_quiet (first | (go_at_call 32; (with_reducible refine (warrantorref06_Is.calls a0_3 t229 _ A12.out).mono ?_); rintro e w' ⟨rfl, ⟨nd, rfl⟩⟩; (try first | exact ⟨rfl, _, World.drewN_drewN _ _ _⟩ | exact ⟨rfl, _, Eq.trans (World.drewN_drewN _ _ _) (congrArg (World.drewN _) (Nat.add_assoc _ _ _))⟩))); try go_wp2_with (first | (go_at_call 32; (with_reducible refine (warrantorref06_Is.calls a0_3 t229 _ A12.out).mono ?_); rintro e w' ⟨rfl, ⟨nd, rfl⟩⟩; (try first | exact ⟨rfl, _, World.drewN_drewN _ _ _⟩ | exact ⟨rfl, _, Eq.trans (World.drewN_drewN _ _ _) (congrArg (World.drewN _) (Nat.add_assoc _ _ _))⟩))))
        go_meet
        case rel => exact ⟨_, (decide (a0_1 ≤ a1)), (false), (t229), (by first | rfl | (simp; done) | (simp [*]; done)), (by first | rfl | (simp; done) | (simp [*]; done)), (by first | rfl | (simp; done) | (simp [*]; done)), H', ⟨by have := HJ2.out; first | omega | exact Nat.le_refl _⟩, ⟨by (with_reducible repeat (first | refine blk_drewN ?_ _ | refine blk_drew ?_ | refine blk_alloc ?_ _)); exact BK227.out⟩, ⟨HB_⟩⟩
      rw [if_pos c9] at H
      have c9b0 : decide (1 ≤ a0_2) = true := decide_eq_true c9
      clear c9
      replace H := bd_ H
      obtain ⟨t228, A10, H⟩ := H
      (try dsimp only at H)
      have H' := Aside0.mk H
      clear H
      obtain ⟨hcz11_0, hcz11_1, hcz11_2, hcz11_3, hcz11_4, hfz11_0, hfz11_1, hfz11_2, hfz11_3, hfz11_4⟩ := cz5_ BK227
      go_wp2_with (first | (go_at_call 32; (with_reducible refine (warrantorref06_Is.calls a0_3 t228 _ A10.out).mono ?_); rintro e w' ⟨rfl, ⟨nd, rfl⟩⟩; (try first | exact ⟨rfl, _, World.drewN_drewN _ _ _⟩ | exact ⟨rfl, _, Eq.trans (World.drewN_drewN _ _ _) (congrArg (World.drewN _) (Nat.add_assoc _ _ _))⟩)))
      repeat (go_quiet (first | (go_at_call 32; (with_reducible refine (warrantorref06_Is.calls a0_3 t228 _ A10.out).mono ?_); rintro e w' ⟨rfl, ⟨nd, rfl⟩⟩; (try first | exact ⟨rfl, _, World.drewN_drewN _ _ _⟩ | exact ⟨rfl, _, Eq.trans (World.drewN_drewN _ _ _) (congrArg (World.drewN _) (Nat.add_assoc _ _ _))⟩))); try go_wp2_with (first | (go_at_call 32; (with_reducible refine (warrantorref06_Is.calls a0_3 t228 _ A10.out).mono ?_); rintro e w' ⟨rfl, ⟨nd, rfl⟩⟩; (try first | exact ⟨rfl, _, World.drewN_drewN _ _ _⟩ | exact ⟨rfl, _, Eq.trans (World.drewN_drewN _ _ _) (congrArg (World.drewN _) (Nat.add_assoc _ _ _))⟩))))
      go_meet
      case rel => exact ⟨_, (decide (a0_1 ≤ a1)), (decide (a0_2 ≤ a1)), (t228), (by first | rfl | (simp; done) | (simp [*]; done)), (by first | rfl | (simp; done) | (simp [*]; done)), (by first | rfl | (simp; done) | (simp [*]; done)), H', ⟨by have := HJ2.out; first | omega | exact Nat.le_refl _⟩, ⟨by (with_reducible repeat (first | refine blk_drewN ?_ _ | refine blk_drew ?_ | refine blk_alloc ?_ _)); exact BK227.out⟩, ⟨HB_⟩⟩
    case rest =>
      clear HC7
      try clear c1
      try clear c2
      try clear p2
      try clear c5
      try clear c5b0
      try clear c6
      try clear c8
      try clear c8b0
      try clear c9
      try clear c9b0
      try clear c14
      try clear c14b0
      try clear hcz11_0
      try clear hcz11_1
      try clear hcz11_2
      try clear hcz11_3
      try clear hcz11_4
      try clear hcz13_0
      try clear hcz13_1
      try clear hcz13_2
      try clear hcz13_3
      try clear hcz13_4
      try clear hcz16_0
      try clear hcz16_1
      try clear hcz16_2
      try clear hcz16_3
      try clear hcz16_4
      try clear hcz18_0
      try clear hcz18_1
      try clear hcz18_2
      try clear hcz18_3
      try clear hcz18_4
      try clear hfz11_0
      try clear hfz11_1
      try clear hfz11_2
      try clear hfz11_3
      try clear hfz11_4
      try clear hfz13_0
      try clear hfz13_1
      try clear hfz13_2
      try clear hfz13_3
      try clear hfz13_4
      try clear hfz16_0
      try clear hfz16_1
      try clear hfz16_2
      try clear hfz16_3
      try clear hfz16_4
      try clear hfz18_0
      try clear hfz18_1
      try clear hfz18_2
      try clear hfz18_3
      try clear hfz18_4
      try clear p2
      obtain ⟨kq, x5_6, x6_6, x7_6, rfl, rfl, rfl, HA, HJ6, BK227, HB⟩ := hcut
      cases kq with
      | zero => exact absurd HA.out (by simp [warrantorref11_Right.j1])
      | succ kj6 =>
        have H := HA.out
        clear HA
        simp only [warrantorref11_Right.j1] at H
        by_cases c19 : a0_0 = 1
        · rw [if_pos c19] at H
          have c19b0 : (a0_0 == 1) = true := beq_iff_eq.mpr c19
          have c19b1 : (a0_0 != 1) = false := bne_eq_false_iff_eq.mpr c19
          clear c19
          obtain rfl := Option.some.inj H
          obtain ⟨hcz20_0, hcz20_1, hcz20_2, hcz20_3, hcz20_4, hfz20_0, hfz20_1, hfz20_2, hfz20_3, hfz20_4⟩ := cz5_ BK227
          go_wp2
          repeat (go_quiet (fail); try go_wp2)
          go_ret
          exact ⟨by first | rfl | (simp [errW_none, errW_some] <;> rfl) | (simp [*, errW_none, errW_some] <;> rfl), HB_⟩
        rw [if_neg c19] at H
        have c19b0 : (a0_0 == 1) = false := beq_eq_false_iff_ne.mpr c19
        have c19b1 : (a0_0 != 1) = true := bne_iff_ne.mpr c19
        by_cases c21 : a0_0 = 2
        · rw [if_pos c21] at H
          have c21b0 : (a0_0 == 2) = true := beq_iff_eq.mpr c21
          have c21b1 : (a0_0 != 2) = false := bne_eq_false_iff_eq.mpr c21
          clear c21
          by_cases c22 : x5_6 = true
          rotate_left
          · replace c22 := Bool.eq_false_iff.mpr c22
            subst c22
            replace H := ng1_ H
            obtain rfl := Option.some.inj H
            obtain ⟨hcz32_0, hcz32_1, hcz32_2, hcz32_3, hcz32_4, hfz32_0, hfz32_1, hfz32_2, hfz32_3, hfz32_4⟩ := cz5_ BK227
            go_wp2
            repeat (go_quiet (fail); try go_wp2)
            go_ret
            exact ⟨by first | rfl | (simp [errW_none, errW_some] <;> rfl) | (simp [*, errW_none, errW_some] <;> rfl), HB_⟩
          subst c22
          replace H := ps1_ H
          by_cases c23 : x6_6 = true
          · subst c23
            replace H := ps1_ H
            by_cases c24 : x7_6 = true
            · subst c24
              replace H := ps1_ H
              obtain rfl := Option.some.inj H
              obtain ⟨hcz25_0, hcz25_1, hcz25_2, hcz25_3, hcz25_4, hfz25_0, hfz25_1, hfz25_2, hfz25_3, hfz25_4⟩ := cz5_ BK227
              go_wp2
              repeat (go_quiet (fail); try go_wp2)
              go_ret
              exact ⟨by first | rfl | (simp [errW_none, errW_some] <;> rfl) | (simp [*, errW_none, errW_some] <;> rfl), HB_⟩
            replace c24 := Bool.eq_false_iff.mpr c24
            subst c24
            replace H := ng1_ H
            obtain rfl := Option.some.inj H
            obtain ⟨hcz26_0, hcz26_1, hcz26_2, hcz26_3, hcz26_4, hfz26_0, hfz26_1, hfz26_2, hfz26_3, hfz26_4⟩ := cz5_ BK227
            go_wp2
            repeat (go_quiet (fail); try go_wp2)
            go_ret
            exact ⟨by first | rfl | (simp [errW_none, errW_some] <;> rfl) | (simp [*, errW_none, errW_some] <;> rfl), HB_⟩
          replace c23 := Bool.eq_false_iff.mpr c23
          subst c23
          replace H := ng1_ H
          by_cases c27 : a0_2 = 0
          rotate_left
          · rw [if_neg c27] at H
            have c27b0 : (a0_2 == 0) = false := beq_eq_false_iff_ne.mpr c27
            have c27b1 : (a0_2 != 0) = true := bne_iff_ne.mpr c27
            obtain rfl := Option.some.inj H
            obtain ⟨hcz31_0, hcz31_1, hcz31_2, hcz31_3, hcz31_4, hfz31_0, hfz31_1, hfz31_2, hfz31_3, hfz31_4⟩ := cz5_ BK227
            go_wp2
            repeat (go_quiet (fail); try go_wp2)
            go_ret
            exact ⟨by first | rfl | (simp [errW_none, errW_some] <;> rfl) | (simp [*, errW_none, errW_some] <;> rfl), HB_⟩
          rw [if_pos c27] at H
          have c27b0 : (a0_2 == 0) = true := beq_iff_eq.mpr c27
          have c27b1 : (a0_2 != 0) = false := bne_eq_false_iff_eq.mpr c27
          clear c27
          by_cases c28 : x7_6 = true
          · subst c28
            replace H := ps1_ H
            obtain rfl := Option.some.inj H
            obtain ⟨hcz29_0, hcz29_1, hcz29_2, hcz29_3, hcz29_4, hfz29_0, hfz29_1, hfz29_2, hfz29_3, hfz29_4⟩ := cz5_ BK227
            go_wp2
            repeat (go_quiet (fail); try go_wp2)
            go_ret
            exact ⟨by first | rfl | (simp [errW_none, errW_some] <;> rfl) | (simp [*, errW_none, errW_some] <;> rfl), HB_⟩
          replace c28 := Bool.eq_false_iff.mpr c28
          subst c28
          replace H := ng1_ H
          obtain rfl := Option.some.inj H
          obtain ⟨hcz30_0, hcz30_1, hcz30_2, hcz30_3, hcz30_4, hfz30_0, hfz30_1, hfz30_2, hfz30_3, hfz30_4⟩ := cz5_ BK227
          go_wp2
          repeat (go_quiet (fail); try go_wp2)
          go_ret
          exact ⟨by first | rfl | (simp [errW_none, errW_some] <;> rfl) | (simp [*, errW_none, errW_some] <;> rfl), HB_⟩
        rw [if_neg c21] at H
        have c21b0 : (a0_0 == 2) = false := beq_eq_false_iff_ne.mpr c21
        have c21b1 : (a0_0 != 2) = true := bne_iff_ne.mpr c21
        by_cases c33 : a0_0 = 3
        · rw [if_pos c33] at H
          have c33b0 : (a0_0 == 3) = true := beq_iff_eq.mpr c33
          have c33b1 : (a0_0 != 3) = false := bne_eq_false_iff_eq.mpr c33
          clear c33
          by_cases c34 : x5_6 = true
          rotate_left
          · replace c34 := Bool.eq_false_iff.mpr c34
            subst c34
            replace H := ng1_ H
            obtain rfl := Option.some.inj H
            obtain ⟨hcz43_0, hcz43_1, hcz43_2, hcz43_3, hcz43_4, hfz43_0, hfz43_1, hfz43_2, hfz43_3, hfz43_4⟩ := cz5_ BK227
            go_wp2
            repeat (go_quiet (fail); try go_wp2)
            go_ret
            exact ⟨by first | rfl | (simp [errW_none, errW_some] <;> rfl) | (simp [*, errW_none, errW_some] <;> rfl), HB_⟩
          subst c34
          replace H := ps1_ H
          by_cases c35 : a0_2 = 0
          rotate_left
          · rw [if_neg c35] at H
            have c35b0 : (a0_2 == 0) = false := beq_eq_false_iff_ne.mpr c35
            have c35b1 : (a0_2 != 0) = true := bne_iff_ne.mpr c35
            obtain rfl := Option.some.inj H
            obtain ⟨hcz42_0, hcz42_1, hcz42_2, hcz42_3, hcz42_4, hfz42_0, hfz42_1, hfz42_2, hfz42_3, hfz42_4⟩ := cz5_ BK227
            go_wp2
            repeat (go_quiet (fail); try go_wp2)
            go_ret
            exact ⟨by first | rfl | (simp [errW_none, errW_some] <;> rfl) | (simp [*, errW_none, errW_some] <;> rfl), HB_⟩
          rw [if_pos c35] at H
          have c35b0 : (a0_2 == 0) = true := beq_iff_eq.mpr c35
          have c35b1 : (a0_2 != 0) = false := bne_eq_false_iff_eq.mpr c35
          clear c35
          by_cases c36 : x7_6 = true
          rotate_left
          · replace c36 := Bool.eq_false_iff.mpr c36
            subst c36
            replace H := ng1_ H
            obtain rfl := Option.some.inj H
            obtain ⟨hcz41_0, hcz41_1, hcz41_2, hcz41_3, hcz41_4, hfz41_0, hfz41_1, hfz41_2, hfz41_3, hfz41_4⟩ := cz5_ BK227
            go_wp2
            repeat (go_quiet (fail); try go_wp2)
            go_ret
            exact ⟨by first | rfl | (simp [errW_none, errW_some] <;> rfl) | (simp [*, errW_none, errW_some] <;> rfl), HB_⟩
          subst c36
          replace H := ps1_ H
          replace H := bd_ H
          obtain ⟨t232, A37, H⟩ := H
          (try dsimp only at H)
          by_cases c38 : t232 = true
          · subst c38
            replace H := ps1_ H
            obtain rfl := Option.some.inj H
            obtain ⟨hcz39_0, hcz39_1, hcz39_2, hcz39_3, hcz39_4, hfz39_0, hfz39_1, hfz39_2, hfz39_3, hfz39_4⟩ := cz5_ BK227
            go_wp2_with (first | (go_at_call 32; (with_reducible refine (warrantorref06_Is.calls a0_4 true _ A37.out).mono ?_); rintro e w' ⟨rfl, ⟨nd, rfl⟩⟩; (try first | exact ⟨rfl, _, World.drewN_drewN _ _ _⟩ | exact ⟨rfl, _, Eq.trans (World.drewN_drewN _ _ _) (congrArg (World.drewN _) (Nat.add_assoc _ _ _))⟩)))
            repeat (go_quiet (first | (go_at_call 32; (with_reducible refine (warrantorref06_Is.calls a0_4 true _ A37.out).mono ?_); rintro e w' ⟨rfl, ⟨nd, rfl⟩⟩; (try first | exact ⟨rfl, _, World.drewN_drewN _ _ _⟩ | exact ⟨rfl, _, Eq.trans (World.drewN_drewN _ _ _) (congrArg (World.drewN _) (Nat.add_assoc _ _ _))⟩))); try go_wp2_with (first | (go_at_call 32; (with_reducible refine (warrantorref06_Is.calls a0_4 true _ A37.out).mono ?_); rintro e w' ⟨rfl, ⟨nd, rfl⟩⟩; (try first | exact ⟨rfl, _, World.drewN_drewN _ _ _⟩ | exact ⟨rfl, _, Eq.trans (World.drewN_drewN _ _ _) (congrArg (World.drewN _) (Nat.add_assoc _ _ _))⟩))))
            go_ret
            exact ⟨by first | rfl | (simp [errW_none, errW_some] <;> rfl) | (simp [*, errW_none, errW_some] <;> rfl), HB_⟩
          replace c38 := Bool.eq_false_iff.mpr c38
          subst c38
          replace H := ng1_ H
          obtain rfl := Option.some.inj H
          obtain ⟨hcz40_0, hcz40_1, hcz40_2, hcz40_3, hcz40_4, hfz40_0, hfz40_1, hfz40_2, hfz40_3, hfz40_4⟩ := cz5_ BK227
          go_wp2_with (first | (go_at_call 32; (with_reducible refine (warrantorref06_Is.calls a0_4 false _ A37.out).mono ?_); rintro e w' ⟨rfl, ⟨nd, rfl⟩⟩; (try first | exact ⟨rfl, _, World.drewN_drewN _ _ _⟩ | exact ⟨rfl, _, Eq.trans (World.drewN_drewN _ _ _) (congrArg (World.drewN _) (Nat.add_assoc _ _ _))⟩)))
          repeat (go_quiet (first | (go_at_call 32; (with_reducible refine (warrantorref06_Is.calls a0_4 false _ A37.out).mono ?_); rintro e w' ⟨rfl, ⟨nd, rfl⟩⟩; (try first | exact ⟨rfl, _, World.drewN_drewN _ _ _⟩ | exact ⟨rfl, _, Eq.trans (World.drewN_drewN _ _ _) (congrArg (World.drewN _) (Nat.add_assoc _ _ _))⟩))); try go_wp2_with (first | (go_at_call 32; (with_reducible refine (warrantorref06_Is.calls a0_4 false _ A37.out).mono ?_); rintro e w' ⟨rfl, ⟨nd, rfl⟩⟩; (try first | exact ⟨rfl, _, World.drewN_drewN _ _ _⟩ | exact ⟨rfl, _, Eq.trans (World.drewN_drewN _ _ _) (congrArg (World.drewN _) (Nat.add_assoc _ _ _))⟩))))
          go_ret
          exact ⟨by first | rfl | (simp [errW_none, errW_some] <;> rfl) | (simp [*, errW_none, errW_some] <;> rfl), HB_⟩
        rw [if_neg c33] at H
        have c33b0 : (a0_0 == 3) = false := beq_eq_false_iff_ne.mpr c33
        have c33b1 : (a0_0 != 3) = true := bne_iff_ne.mpr c33
        by_cases c44 : a0_0 = 4
        · rw [if_pos c44] at H
          have c44b0 : (a0_0 == 4) = true := beq_iff_eq.mpr c44
          have c44b1 : (a0_0 != 4) = false := bne_eq_false_iff_eq.mpr c44
          clear c44
          by_cases c45 : x5_6 = true
          · subst c45
            replace H := ps1_ H
            by_cases c46 : x6_6 = true
            · subst c46
              replace H := ps1_ H
              by_cases c47 : a0_1 = a0_2
              · rw [if_pos c47] at H
                have c47b0 : (a0_1 == a0_2) = true := beq_iff_eq.mpr c47
                have c47b1 : (a0_1 != a0_2) = false := bne_eq_false_iff_eq.mpr c47
                clear c47
                obtain rfl := Option.some.inj H
                obtain ⟨hcz48_0, hcz48_1, hcz48_2, hcz48_3, hcz48_4, hfz48_0, hfz48_1, hfz48_2, hfz48_3, hfz48_4⟩ := cz5_ BK227
                go_wp2
                repeat (go_quiet (fail); try go_wp2)
                go_ret
                exact ⟨by first | rfl | (simp [errW_none, errW_some] <;> rfl) | (simp [*, errW_none, errW_some] <;> rfl), HB_⟩
              rw [if_neg c47] at H
              have c47b0 : (a0_1 == a0_2) = false := beq_eq_false_iff_ne.mpr c47
              have c47b1 : (a0_1 != a0_2) = true := bne_iff_ne.mpr c47
              by_cases c49 : x7_6 = true
              · subst c49
                replace H := ps1_ H
                obtain rfl := Option.some.inj H
                obtain ⟨hcz50_0, hcz50_1, hcz50_2, hcz50_3, hcz50_4, hfz50_0, hfz50_1, hfz50_2, hfz50_3, hfz50_4⟩ := cz5_ BK227
                go_wp2
                repeat (go_quiet (fail); try go_wp2)
                go_ret
                exact ⟨by first | rfl | (simp [errW_none, errW_some] <;> rfl) | (simp [*, errW_none, errW_some] <;> rfl), HB_⟩
              replace c49 := Bool.eq_false_iff.mpr c49
              subst c49
              replace H := ng1_ H
              obtain rfl := Option.some.inj H
              obtain ⟨hcz51_0, hcz51_1, hcz51_2, hcz51_3, hcz51_4, hfz51_0, hfz51_1, hfz51_2, hfz51_3, hfz51_4⟩ := cz5_ BK227
              go_wp2
              repeat (go_quiet (fail); try go_wp2)
              go_ret
              exact ⟨by first | rfl | (simp [errW_none, errW_some] <;> rfl) | (simp [*, errW_none, errW_some] <;> rfl), HB_⟩
            replace c46 := Bool.eq_false_iff.mpr c46
            subst c46
            replace H := ng1_ H
            by_cases c52 : a0_2 = 0
            rotate_left
            · rw [if_neg c52] at H
              have c52b0 : (a0_2 == 0) = false := beq_eq_false_iff_ne.mpr c52
              have c52b1 : (a0_2 != 0) = true := bne_iff_ne.mpr c52
              obtain rfl := Option.some.inj H
              obtain ⟨hcz58_0, hcz58_1, hcz58_2, hcz58_3, hcz58_4, hfz58_0, hfz58_1, hfz58_2, hfz58_3, hfz58_4⟩ := cz5_ BK227
              go_wp2
              repeat (go_quiet (fail); try go_wp2)
              go_ret
              exact ⟨by first | rfl | (simp [errW_none, errW_some] <;> rfl) | (simp [*, errW_none, errW_some] <;> rfl), HB_⟩
            rw [if_pos c52] at H
            have c52b0 : (a0_2 == 0) = true := beq_iff_eq.mpr c52
            have c52b1 : (a0_2 != 0) = false := bne_eq_false_iff_eq.mpr c52
            clear c52
            by_cases c53 : a0_1 = a0_2
            · rw [if_pos c53] at H
              have c53b0 : (a0_1 == a0_2) = true := beq_iff_eq.mpr c53
              have c53b1 : (a0_1 != a0_2) = false := bne_eq_false_iff_eq.mpr c53
              clear c53
              obtain rfl := Option.some.inj H
              obtain ⟨hcz54_0, hcz54_1, hcz54_2, hcz54_3, hcz54_4, hfz54_0, hfz54_1, hfz54_2, hfz54_3, hfz54_4⟩ := cz5_ BK227
              go_wp2
              repeat (go_quiet (fail); try go_wp2)
              go_ret
              exact ⟨by first | rfl | (simp [errW_none, errW_some] <;> rfl) | (simp [*, errW_none, errW_some] <;> rfl), HB_⟩
            rw [if_neg c53] at H
            have c53b0 : (a0_1 == a0_2) = false := beq_eq_false_iff_ne.mpr c53
            have c53b1 : (a0_1 != a0_2) = true := bne_iff_ne.mpr c53
            by_cases c55 : x7_6 = true
            · subst c55
              replace H := ps1_ H
              obtain rfl := Option.some.inj H
              obtain ⟨hcz56_0, hcz56_1, hcz56_2, hcz56_3, hcz56_4, hfz56_0, hfz56_1, hfz56_2, hfz56_3, hfz56_4⟩ := cz5_ BK227
              go_wp2
              repeat (go_quiet (fail); try go_wp2)
              go_ret
              exact ⟨by first | rfl | (simp [errW_none, errW_some] <;> rfl) | (simp [*, errW_none, errW_some] <;> rfl), HB_⟩
            replace c55 := Bool.eq_false_iff.mpr c55
            subst c55
            replace H := ng1_ H
            obtain rfl := Option.some.inj H
            obtain ⟨hcz57_0, hcz57_1, hcz57_2, hcz57_3, hcz57_4, hfz57_0, hfz57_1, hfz57_2, hfz57_3, hfz57_4⟩ := cz5_ BK227
            go_wp2
            repeat (go_quiet (fail); try go_wp2)
            go_ret
            exact ⟨by first | rfl | (simp [errW_none, errW_some] <;> rfl) | (simp [*, errW_none, errW_some] <;> rfl), HB_⟩
          replace c45 := Bool.eq_false_iff.mpr c45
          subst c45
          replace H := ng1_ H
          by_cases c59 : a0_1 = 0
          rotate_left
          · rw [if_neg c59] at H
            have c59b0 : (a0_1 == 0) = false := beq_eq_false_iff_ne.mpr c59
            have c59b1 : (a0_1 != 0) = true := bne_iff_ne.mpr c59
            obtain rfl := Option.some.inj H
            obtain ⟨hcz73_0, hcz73_1, hcz73_2, hcz73_3, hcz73_4, hfz73_0, hfz73_1, hfz73_2, hfz73_3, hfz73_4⟩ := cz5_ BK227
            go_wp2
            repeat (go_quiet (fail); try go_wp2)
            go_ret
            exact ⟨by first | rfl | (simp [errW_none, errW_some] <;> rfl) | (simp [*, errW_none, errW_some] <;> rfl), HB_⟩
          rw [if_pos c59] at H
          have c59b0 : (a0_1 == 0) = true := beq_iff_eq.mpr c59
          have c59b1 : (a0_1 != 0) = false := bne_eq_false_iff_eq.mpr c59
          clear c59
          by_cases c60 : x6_6 = true
          · subst c60
            replace H := ps1_ H
            by_cases c61 : a0_1 = a0_2
            · rw [if_pos c61] at H
              have c61b0 : (a0_1 == a0_2) = true := beq_iff_eq.mpr c61
              have c61b1 : (a0_1 != a0_2) = false := bne_eq_false_iff_eq.mpr c61
              clear c61
              obtain rfl := Option.some.inj H
              obtain ⟨hcz62_0, hcz62_1, hcz62_2, hcz62_3, hcz62_4, hfz62_0, hfz62_1, hfz62_2, hfz62_3, hfz62_4⟩ := cz5_ BK227
              go_wp2
              repeat (go_quiet (fail); try go_wp2)
              go_ret
              exact ⟨by first | rfl | (simp [errW_none, errW_some] <;> rfl) | (simp [*, errW_none, errW_some] <;> rfl), HB_⟩
            rw [if_neg c61] at H
            have c61b0 : (a0_1 == a0_2) = false := beq_eq_false_iff_ne.mpr c61
            have c61b1 : (a0_1 != a0_2) = true := bne_iff_ne.mpr c61
            by_cases c63 : x7_6 = true
            · subst c63
              replace H := ps1_ H
              obtain rfl := Option.some.inj H
              obtain ⟨hcz64_0, hcz64_1, hcz64_2, hcz64_3, hcz64_4, hfz64_0, hfz64_1, hfz64_2, hfz64_3, hfz64_4⟩ := cz5_ BK227
              go_wp2
              repeat (go_quiet (fail); try go_wp2)
              go_ret
              exact ⟨by first | rfl | (simp [errW_none, errW_some] <;> rfl) | (simp [*, errW_none, errW_some] <;> rfl), HB_⟩
            replace c63 := Bool.eq_false_iff.mpr c63
            subst c63
            replace H := ng1_ H
            obtain rfl := Option.some.inj H
            obtain ⟨hcz65_0, hcz65_1, hcz65_2, hcz65_3, hcz65_4, hfz65_0, hfz65_1, hfz65_2, hfz65_3, hfz65_4⟩ := cz5_ BK227
            go_wp2
            repeat (go_quiet (fail); try go_wp2)
            go_ret
            exact ⟨by first | rfl | (simp [errW_none, errW_some] <;> rfl) | (simp [*, errW_none, errW_some] <;> rfl), HB_⟩
          replace c60 := Bool.eq_false_iff.mpr c60
          subst c60
          replace H := ng1_ H
          by_cases c66 : a0_2 = 0
          rotate_left
          · rw [if_neg c66] at H
            have c66b0 : (a0_2 == 0) = false := beq_eq_false_iff_ne.mpr c66
            have c66b1 : (a0_2 != 0) = true := bne_iff_ne.mpr c66
            obtain rfl := Option.some.inj H
            obtain ⟨hcz72_0, hcz72_1, hcz72_2, hcz72_3, hcz72_4, hfz72_0, hfz72_1, hfz72_2, hfz72_3, hfz72_4⟩ := cz5_ BK227
            go_wp2
            repeat (go_quiet (fail); try go_wp2)
            go_ret
            exact ⟨by first | rfl | (simp [errW_none, errW_some] <;> rfl) | (simp [*, errW_none, errW_some] <;> rfl), HB_⟩
          rw [if_pos c66] at H
          have c66b0 : (a0_2 == 0) = true := beq_iff_eq.mpr c66
          have c66b1 : (a0_2 != 0) = false := bne_eq_false_iff_eq.mpr c66
          clear c66
          by_cases c67 : a0_1 = a0_2
          · rw [if_pos c67] at H
            have c67b0 : (a0_1 == a0_2) = true := beq_iff_eq.mpr c67
            have c67b1 : (a0_1 != a0_2) = false := bne_eq_false_iff_eq.mpr c67
            clear c67
            obtain rfl := Option.some.inj H
            obtain ⟨hcz68_0, hcz68_1, hcz68_2, hcz68_3, hcz68_4, hfz68_0, hfz68_1, hfz68_2, hfz68_3, hfz68_4⟩ := cz5_ BK227
            go_wp2
            repeat (go_quiet (fail); try go_wp2)
            go_ret
            exact ⟨by first | rfl | (simp [errW_none, errW_some] <;> rfl) | (simp [*, errW_none, errW_some] <;> rfl), HB_⟩
          rw [if_neg c67] at H
          have c67b0 : (a0_1 == a0_2) = false := beq_eq_false_iff_ne.mpr c67
          have c67b1 : (a0_1 != a0_2) = true := bne_iff_ne.mpr c67
          by_cases c69 : x7_6 = true
          · subst c69
            replace H := ps1_ H
            obtain rfl := Option.some.inj H
            obtain ⟨hcz70_0, hcz70_1, hcz70_2, hcz70_3, hcz70_4, hfz70_0, hfz70_1, hfz70_2, hfz70_3, hfz70_4⟩ := cz5_ BK227
            go_wp2
            repeat (go_quiet (fail); try go_wp2)
            go_ret
            exact ⟨by first | rfl | (simp [errW_none, errW_some] <;> rfl) | (simp [*, errW_none, errW_some] <;> rfl), HB_⟩
          replace c69 := Bool.eq_false_iff.mpr c69
          subst c69
          replace H := ng1_ H
          obtain rfl := Option.some.inj H
          obtain ⟨hcz71_0, hcz71_1, hcz71_2, hcz71_3, hcz71_4, hfz71_0, hfz71_1, hfz71_2, hfz71_3, hfz71_4⟩ := cz5_ BK227
          go_wp2
          repeat (go_quiet (fail); try go_wp2)
          go_ret
          exact ⟨by first | rfl | (simp [errW_none, errW_some] <;> rfl) | (simp [*, errW_none, errW_some] <;> rfl), HB_⟩
        rw [if_neg c44] at H
        have c44b0 : (a0_0 == 4) = false := beq_eq_false_iff_ne.mpr c44
        have c44b1 : (a0_0 != 4) = true := bne_iff_ne.mpr c44
        by_cases c74 : a0_0 = 5
        rotate_left
        · rw [if_neg c74] at H
          have c74b0 : (a0_0 == 5) = false := beq_eq_false_iff_ne.mpr c74
          have c74b1 : (a0_0 != 5) = true := bne_iff_ne.mpr c74
          obtain rfl := Option.some.inj H
          obtain ⟨hcz104_0, hcz104_1, hcz104_2, hcz104_3, hcz104_4, hfz104_0, hfz104_1, hfz104_2, hfz104_3, hfz104_4⟩ := cz5_ BK227
          go_wp2
          repeat (go_quiet (fail); try go_wp2)
          go_ret
          exact ⟨by first | rfl | (simp [errW_none, errW_some] <;> rfl) | (simp [*, errW_none, errW_some] <;> rfl), HB_⟩
        rw [if_pos c74] at H
        have c74b0 : (a0_0 == 5) = true := beq_iff_eq.mpr c74
        have c74b1 : (a0_0 != 5) = false := bne_eq_false_iff_eq.mpr c74
        clear c74
        by_cases c75 : x5_6 = true
        · subst c75
          replace H := ps1_ H
          by_cases c76 : x6_6 = true
          · subst c76
            replace H := ps1_ H
            by_cases c77 : a0_1 = a0_2
            · rw [if_pos c77] at H
              have c77b0 : (a0_1 == a0_2) = true := beq_iff_eq.mpr c77
              have c77b1 : (a0_1 != a0_2) = false := bne_eq_false_iff_eq.mpr c77
              clear c77
              obtain rfl := Option.some.inj H
              obtain ⟨hcz78_0, hcz78_1, hcz78_2, hcz78_3, hcz78_4, hfz78_0, hfz78_1, hfz78_2, hfz78_3, hfz78_4⟩ := cz5_ BK227
              go_wp2
              repeat (go_quiet (fail); try go_wp2)
              go_ret
              exact ⟨by first | rfl | (simp [errW_none, errW_some] <;> rfl) | (simp [*, errW_none, errW_some] <;> rfl), HB_⟩
            rw [if_neg c77] at H
            have c77b0 : (a0_1 == a0_2) = false := beq_eq_false_iff_ne.mpr c77
            have c77b1 : (a0_1 != a0_2) = true := bne_iff_ne.mpr c77
            by_cases c79 : x7_6 = true
            · subst c79
              replace H := ps1_ H
              obtain rfl := Option.some.inj H
              obtain ⟨hcz80_0, hcz80_1, hcz80_2, hcz80_3, hcz80_4, hfz80_0, hfz80_1, hfz80_2, hfz80_3, hfz80_4⟩ := cz5_ BK227
              go_wp2
              repeat (go_quiet (fail); try go_wp2)
              go_ret
              exact ⟨by first | rfl | (simp [errW_none, errW_some] <;> rfl) | (simp [*, errW_none, errW_some] <;> rfl), HB_⟩
            replace c79 := Bool.eq_false_iff.mpr c79
            subst c79
            replace H := ng1_ H
            obtain rfl := Option.some.inj H
            obtain ⟨hcz81_0, hcz81_1, hcz81_2, hcz81_3, hcz81_4, hfz81_0, hfz81_1, hfz81_2, hfz81_3, hfz81_4⟩ := cz5_ BK227
            go_wp2
            repeat (go_quiet (fail); try go_wp2)
            go_ret
            exact ⟨by first | rfl | (simp [errW_none, errW_some] <;> rfl) | (simp [*, errW_none, errW_some] <;> rfl), HB_⟩
          replace c76 := Bool.eq_false_iff.mpr c76
          subst c76
          replace H := ng1_ H
          by_cases c82 : a0_2 = 0
          rotate_left
          · rw [if_neg c82] at H
            have c82b0 : (a0_2 == 0) = false := beq_eq_false_iff_ne.mpr c82
            have c82b1 : (a0_2 != 0) = true := bne_iff_ne.mpr c82
            obtain rfl := Option.some.inj H
            obtain ⟨hcz88_0, hcz88_1, hcz88_2, hcz88_3, hcz88_4, hfz88_0, hfz88_1, hfz88_2, hfz88_3, hfz88_4⟩ := cz5_ BK227
            go_wp2
            repeat (go_quiet (fail); try go_wp2)
            go_ret
            exact ⟨by first | rfl | (simp [errW_none, errW_some] <;> rfl) | (simp [*, errW_none, errW_some] <;> rfl), HB_⟩
          rw [if_pos c82] at H
          have c82b0 : (a0_2 == 0) = true := beq_iff_eq.mpr c82
          have c82b1 : (a0_2 != 0) = false := bne_eq_false_iff_eq.mpr c82
          clear c82
          by_cases c83 : a0_1 = a0_2
          · rw [if_pos c83] at H
            have c83b0 : (a0_1 == a0_2) = true := beq_iff_eq.mpr c83
            have c83b1 : (a0_1 != a0_2) = false := bne_eq_false_iff_eq.mpr c83
            clear c83
            obtain rfl := Option.some.inj H
            obtain ⟨hcz84_0, hcz84_1, hcz84_2, hcz84_3, hcz84_4, hfz84_0, hfz84_1, hfz84_2, hfz84_3, hfz84_4⟩ := cz5_ BK227
            go_wp2
            repeat (go_quiet (fail); try go_wp2)
            go_ret
            exact ⟨by first | rfl | (simp [errW_none, errW_some] <;> rfl) | (simp [*, errW_none, errW_some] <;> rfl), HB_⟩
          rw [if_neg c83] at H
          have c83b0 : (a0_1 == a0_2) = false := beq_eq_false_iff_ne.mpr c83
          have c83b1 : (a0_1 != a0_2) = true := bne_iff_ne.mpr c83
          by_cases c85 : x7_6 = true
          · subst c85
            replace H := ps1_ H
            obtain rfl := Option.some.inj H
            obtain ⟨hcz86_0, hcz86_1, hcz86_2, hcz86_3, hcz86_4, hfz86_0, hfz86_1, hfz86_2, hfz86_3, hfz86_4⟩ := cz5_ BK227
            go_wp2
            repeat (go_quiet (fail); try go_wp2)
            go_ret
            exact ⟨by first | rfl | (simp [errW_none, errW_some] <;> rfl) | (simp [*, errW_none, errW_some] <;> rfl), HB_⟩
          replace c85 := Bool.eq_false_iff.mpr c85
          subst c85
          replace H := ng1_ H
          obtain rfl := Option.some.inj H
          obtain ⟨hcz87_0, hcz87_1, hcz87_2, hcz87_3, hcz87_4, hfz87_0, hfz87_1, hfz87_2, hfz87_3, hfz87_4⟩ := cz5_ BK227
          go_wp2
          repeat (go_quiet (fail); try go_wp2)
          go_ret
          exact ⟨by first | rfl | (simp [errW_none, errW_some] <;> rfl) | (simp [*, errW_none, errW_some] <;> rfl), HB_⟩
        replace c75 := Bool.eq_false_iff.mpr c75
        subst c75
        replace H := ng1_ H
        by_cases c89 : a0_1 = 0
        rotate_left
        · rw [if_neg c89] at H
          have c89b0 : (a0_1 == 0) = false := beq_eq_false_iff_ne.mpr c89
          have c89b1 : (a0_1 != 0) = true := bne_iff_ne.mpr c89
          obtain rfl := Option.some.inj H
          obtain ⟨hcz103_0, hcz103_1, hcz103_2, hcz103_3, hcz103_4, hfz103_0, hfz103_1, hfz103_2, hfz103_3, hfz103_4⟩ := cz5_ BK227
          go_wp2
          repeat (go_quiet (fail); try go_wp2)
          go_ret
          exact ⟨by first | rfl | (simp [errW_none, errW_some] <;> rfl) | (simp [*, errW_none, errW_some] <;> rfl), HB_⟩
        rw [if_pos c89] at H
        have c89b0 : (a0_1 == 0) = true := beq_iff_eq.mpr c89
        have c89b1 : (a0_1 != 0) = false := bne_eq_false_iff_eq.mpr c89
        clear c89
        by_cases c90 : x6_6 = true
        · subst c90
          replace H := ps1_ H
          by_cases c91 : a0_1 = a0_2
          · rw [if_pos c91] at H
            have c91b0 : (a0_1 == a0_2) = true := beq_iff_eq.mpr c91
            have c91b1 : (a0_1 != a0_2) = false := bne_eq_false_iff_eq.mpr c91
            clear c91
            obtain rfl := Option.some.inj H
            obtain ⟨hcz92_0, hcz92_1, hcz92_2, hcz92_3, hcz92_4, hfz92_0, hfz92_1, hfz92_2, hfz92_3, hfz92_4⟩ := cz5_ BK227
            go_wp2
            repeat (go_quiet (fail); try go_wp2)
            go_ret
            exact ⟨by first | rfl | (simp [errW_none, errW_some] <;> rfl) | (simp [*, errW_none, errW_some] <;> rfl), HB_⟩
          rw [if_neg c91] at H
          have c91b0 : (a0_1 == a0_2) = false := beq_eq_false_iff_ne.mpr c91
          have c91b1 : (a0_1 != a0_2) = true := bne_iff_ne.mpr c91
          by_cases c93 : x7_6 = true
          · subst c93
            replace H := ps1_ H
            obtain rfl := Option.some.inj H
            obtain ⟨hcz94_0, hcz94_1, hcz94_2, hcz94_3, hcz94_4, hfz94_0, hfz94_1, hfz94_2, hfz94_3, hfz94_4⟩ := cz5_ BK227
            go_wp2
            repeat (go_quiet (fail); try go_wp2)
            go_ret
            exact ⟨by first | rfl | (simp [errW_none, errW_some] <;> rfl) | (simp [*, errW_none, errW_some] <;> rfl), HB_⟩
          replace c93 := Bool.eq_false_iff.mpr c93
          subst c93
          replace H := ng1_ H
          obtain rfl := Option.some.inj H
          obtain ⟨hcz95_0, hcz95_1, hcz95_2, hcz95_3, hcz95_4, hfz95_0, hfz95_1, hfz95_2, hfz95_3, hfz95_4⟩ := cz5_ BK227
          go_wp2
          repeat (go_quiet (fail); try go_wp2)
          go_ret
          exact ⟨by first | rfl | (simp [errW_none, errW_some] <;> rfl) | (simp [*, errW_none, errW_some] <;> rfl), HB_⟩
        replace c90 := Bool.eq_false_iff.mpr c90
        subst c90
        replace H := ng1_ H
        by_cases c96 : a0_2 = 0
        rotate_left
        · rw [if_neg c96] at H
          have c96b0 : (a0_2 == 0) = false := beq_eq_false_iff_ne.mpr c96
          have c96b1 : (a0_2 != 0) = true := bne_iff_ne.mpr c96
          obtain rfl := Option.some.inj H
          obtain ⟨hcz102_0, hcz102_1, hcz102_2, hcz102_3, hcz102_4, hfz102_0, hfz102_1, hfz102_2, hfz102_3, hfz102_4⟩ := cz5_ BK227
          go_wp2
          repeat (go_quiet (fail); try go_wp2)
          go_ret
          exact ⟨by first | rfl | (simp [errW_none, errW_some] <;> rfl) | (simp [*, errW_none, errW_some] <;> rfl), HB_⟩
        rw [if_pos c96] at H
        have c96b0 : (a0_2 == 0) = true := beq_iff_eq.mpr c96
        have c96b1 : (a0_2 != 0) = false := bne_eq_false_iff_eq.mpr c96
        clear c96
        by_cases c97 : a0_1 = a0_2
        · rw [if_pos c97] at H
          have c97b0 : (a0_1 == a0_2) = true := beq_iff_eq.mpr c97
          have c97b1 : (a0_1 != a0_2) = false := bne_eq_false_iff_eq.mpr c97
          clear c97
          obtain rfl := Option.some.inj H
          obtain ⟨hcz98_0, hcz98_1, hcz98_2, hcz98_3, hcz98_4, hfz98_0, hfz98_1, hfz98_2, hfz98_3, hfz98_4⟩ := cz5_ BK227
          go_wp2
          repeat (go_quiet (fail); try go_wp2)
          go_ret
          exact ⟨by first | rfl | (simp [errW_none, errW_some] <;> rfl) | (simp [*, errW_none, errW_some] <;> rfl), HB_⟩
        rw [if_neg c97] at H
        have c97b0 : (a0_1 == a0_2) = false := beq_eq_false_iff_ne.mpr c97
        have c97b1 : (a0_1 != a0_2) = true := bne_iff_ne.mpr c97
        by_cases c99 : x7_6 = true
        · subst c99
          replace H := ps1_ H
          obtain rfl := Option.some.inj H
          obtain ⟨hcz100_0, hcz100_1, hcz100_2, hcz100_3, hcz100_4, hfz100_0, hfz100_1, hfz100_2, hfz100_3, hfz100_4⟩ := cz5_ BK227
          go_wp2
          repeat (go_quiet (fail); try go_wp2)
          go_ret
          exact ⟨by first | rfl | (simp [errW_none, errW_some] <;> rfl) | (simp [*, errW_none, errW_some] <;> rfl), HB_⟩
        replace c99 := Bool.eq_false_iff.mpr c99
        subst c99
        replace H := ng1_ H
        obtain rfl := Option.some.inj H
        obtain ⟨hcz101_0, hcz101_1, hcz101_2, hcz101_3, hcz101_4, hfz101_0, hfz101_1, hfz101_2, hfz101_3, hfz101_4⟩ := cz5_ BK227
        go_wp2
        repeat (go_quiet (fail); try go_wp2)
        go_ret
        exact ⟨by first | rfl | (simp [errW_none, errW_some] <;> rfl) | (simp [*, errW_none, errW_some] <;> rfl), HB_⟩
end Go.Proofs.Ytpcpbeklaibdfaa.C
