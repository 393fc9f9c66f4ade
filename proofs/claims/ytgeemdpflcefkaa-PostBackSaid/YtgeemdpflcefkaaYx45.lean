import Derived.Test.YtgeemdpflcefkaaYx0
import Derived.Test.YtgeemdpflcefkaaYx3
import Derived.Test.YtgeemdpflcefkaaYx28
import Derived.Test.YtgeemdpflcefkaaYx32
import Derived.Test.YtgeemdpflcefkaaYx35
import Derived.Test.YtgeemdpflcefkaaYx41
import Derived.Test.YtgeemdpflcefkaaYx42
import Derived.Test.YtgeemdpflcefkaaYx44
namespace Go.Proofs.Ytgeemdpflcefkaa.Y
open Go.RowKit Go.Proofs.YtgeemdpflcefkaaW.PrintWords Go.Proofs.YtgeemdpflcefkaaW.PrintLast Go.Proofs.YtgeemdpflcefkaaW.PrintMore
attribute [local go_sem] max2_int min2_int max_two min_two max_three min_three max_four min_four   -- for this text's walks alone
set_option linter.unusedVariables false
set_option linter.unusedSimpArgs false
mutual
def warrantorlaw14_PostBack.j0 : Nat → List Int → Bool → Int → List Int → Int → Int → Int → Int → Int → Option (Bool)
 | 0, _, _, _, _, _, _, _, _, _ => none
 | k + 1, x2, x31, x595000, x595001, x596000, x596001, x596002, x596003, x596004 => if x31 = true then ((warrantorlaw14_lives.f k).bind fun t598 => (some t598)) else ((post_Post.f k x595000 x595001 x596000 x596001 x596002 x596003 x596004).bind fun bt599 => ((warrantorlaw14_lives.f k).bind fun t605 => (if t605 = true then ((dbm_Has.f k bt599.1 bt599.2.1 x2).bind fun t606 => (if t606 = true then (if (x2.length : Int) = x595000 then ((some (([] : List Int) : List Int)).bind fun y607 => (if y607.length + x2.length < 17592186044416 then ((some (y607 ++ x2 : List Int)).bind fun y610 => (if x596000 = 2 then (warrantorlaw14_PostBack.j1 k x2 y610 0 (x596001 == x596002) x595000 x595001 x596000 x596001 x596002 x596003 x596004) else (warrantorlaw14_PostBack.j1 k x2 y610 0 false x595000 x595001 x596000 x596001 x596002 x596003 x596004))) else (none))) else (none)) else (some true))) else (none))))
def warrantorlaw14_PostBack.j1 : Nat → List Int → List Int → Int → Bool → Int → List Int → Int → Int → Int → Int → Int → Option (Bool)
 | 0, _, _, _, _, _, _, _, _, _, _, _ => none
 | k + 1, x2, x9, x10, x62, x595000, x595001, x596000, x596001, x596002, x596003, x596004 => if x62 = true then (if 0 ≤ (wrap64 (x596001 - 1)) then (if (wrap64 (x596001 - 1)) < (x2.length : Int) then ((warrantorref13_With.f x2 x596001 (wrap64 ((rd x2 (wrap64 (x596001 - 1))) - x596003))).bind fun t614 => (warrantorlaw14_PostBack.j2 k x2 t614 x10 x595000 x595001 x596000 x596001 x596002 x596003 x596004)) else (none)) else (none)) else (warrantorlaw14_PostBack.j2 k x2 x9 x10 x595000 x595001 x596000 x596001 x596002 x596003 x596004)
def warrantorlaw14_PostBack.j2 : Nat → List Int → List Int → Int → Int → List Int → Int → Int → Int → Int → Int → Option (Bool)
 | 0, _, _, _, _, _, _, _, _, _, _ => none
 | k + 1, x2, x9, x10, x595000, x595001, x596000, x596001, x596002, x596003, x596004 => if x596000 = 3 then (warrantorlaw14_PostBack.j3 k x2 x9 x10 true x595000 x595001 x596000 x596001 x596002 x596003 x596004) else (if x596000 = 2 then (warrantorlaw14_PostBack.j3 k x2 x9 x10 (x596001 != x596002) x595000 x595001 x596000 x596001 x596002 x596003 x596004) else (warrantorlaw14_PostBack.j3 k x2 x9 x10 false x595000 x595001 x596000 x596001 x596002 x596003 x596004))
def warrantorlaw14_PostBack.j3 : Nat → List Int → List Int → Int → Bool → Int → List Int → Int → Int → Int → Int → Int → Option (Bool)
 | 0, _, _, _, _, _, _, _, _, _, _, _ => none
 | k + 1, x2, x9, x10, x90, x595000, x595001, x596000, x596001, x596002, x596003, x596004 => if x90 = true then (if 0 ≤ (wrap64 (x596001 - 1)) then (if (wrap64 (x596001 - 1)) < (x2.length : Int) then (warrantorlaw14_PostBack.l0 k x2 (rd x2 (wrap64 (x596001 - 1))) (-1099511627776) 0 x595000 x595001 x596000 x596001 x596002 x596003 x596004) else (none)) else (none)) else ((warrantorref13_Does.f x596000 x596001 x596002 x596003 x596004 x9 x10).bind fun bt630 => ((dbm_Has.f k x595000 x595001 x9).bind fun t634 => (if t634 = true then (if bt630.2 = 0 then ((warrantorref13_Same.f k 0 bt630.1 0 x2).bind fun t635 => (some t635)) else (none)) else (none))))
def warrantorlaw14_PostBack.l0 : Nat → List Int → Int → Int → Int → Int → List Int → Int → Int → Int → Int → Int → Option (Bool)
 | 0, _, _, _, _, _, _, _, _, _, _, _ => none
 | k + 1, x2, x10, x11, x12, x595000, x595001, x596000, x596001, x596002, x596003, x596004 => if x12 ≤ x595000 then ((dbm_Bound.f k x595000 x595001 x12 x596001).bind fun bt618 => ((warrantorref13_Value.f x2 x12).bind fun t620 => (if x12 = x596001 then (warrantorlaw14_PostBack.l0 k x2 x10 x11 (wrap64 (x12 + 1)) x595000 x595001 x596000 x596001 x596002 x596003 x596004) else (if (wrap64 (t620 - bt618.1)) > x11 then (warrantorlaw14_PostBack.l0 k x2 x10 (wrap64 (t620 - bt618.1)) (wrap64 (x12 + 1)) x595000 x595001 x596000 x596001 x596002 x596003 x596004) else (warrantorlaw14_PostBack.l0 k x2 x10 x11 (wrap64 (x12 + 1)) x595000 x595001 x596000 x596001 x596002 x596003 x596004))))) else ((warrantorref13_With.f x2 x596001 x11).bind fun t621 => ((warrantorref13_Does.f x596000 x596001 x596002 x596003 x596004 t621 x10).bind fun bt624 => ((dbm_Has.f k x595000 x595001 t621).bind fun t628 => (if t628 = true then (if bt624.2 = 0 then ((warrantorref13_Same.f k 0 bt624.1 0 x2).bind fun t629 => (some t629)) else (none)) else (none)))))
end
def warrantorlaw14_PostBack.f (k : Nat) (a0_0 : Int) (l0_1 : List Int) (a1_0 : Int) (a1_1 : Int) (a1_2 : Int) (a1_3 : Int) (a1_4 : Int) (l2 : List Int) : Option (Bool) := (warrantorref08_Large.f l0_1).bind fun t596 => (if t596 = true then (warrantorlaw14_PostBack.j0 k l2 true a0_0 l0_1 a1_0 a1_1 a1_2 a1_3 a1_4) else (if (l2.length : Int) > 20 then (warrantorlaw14_PostBack.j0 k l2 true a0_0 l0_1 a1_0 a1_1 a1_2 a1_3 a1_4) else ((warrantorref14_Check.f k a0_0 l0_1 a1_0 a1_1 a1_2 a1_3 a1_4).bind fun t597 => (warrantorlaw14_PostBack.j0 k l2 (t597 != 0) a0_0 l0_1 a1_0 a1_1 a1_2 a1_3 a1_4))))
def warrantorlaw14_PostBack.T13 : Bool × List (List Nat × List Nat) := (true, [([], []), ([], []), ([1], [1]), ([], []), ([], []), ([4], [4]), ([5], [5]), ([3, 6], [3, 6]), ([7], [7]), ([], []), ([9], [9]), ([8, 10], [8, 10]), ([0, 2, 11], [0, 2, 11]), ([12, 12, 0, 1, 2, 3, 4, 5, 6, 7, 8, 9, 10, 11, 12], [12])])
def warrantorlaw14_PostBack.B13 : List Nat := [0, 0, 2, 0, 0, 16, 48, 120, 248, 0, 512, 2040, 4095, 8191]
theorem warrantorlaw14_PostBack.tab13 : rtab .any (opsOf Try.f10 13) = warrantorlaw14_PostBack.T13 := by kernel_rfl
theorem warrantorlaw14_PostBack.bits13 : waitsOk warrantorlaw14_PostBack.T13.2 warrantorlaw14_PostBack.B13 = true := by kernel_rfl
set_option maxHeartbeats 8000000 in
set_option maxRecDepth 100000 in
theorem warrantorlaw14_PostBack.calls (k : Nat) (a0_0 : Int) (A0_1 : Option Addr) (c0_1 : Nat) (l0_1 : List Int) (a1_0 : Int) (a1_1 : Int) (a1_2 : Int) (a1_3 : Int) (a1_4 : Int) (A2 : Option Addr) (c2 : Nat) (l2 : List Int) (r : Bool) (w : World) (hr0_1 : Kd.C (Kd.int .i64) w A0_1 l0_1.length l0_1) (hc0_1 : l0_1.length ≤ c0_1) (hr2 : Kd.C (Kd.int .i64) w A2 l2.length l2) (hc2 : l2.length ≤ c2) (h : warrantorlaw14_PostBack.f k a0_0 l0_1 a1_0 a1_1 a1_2 a1_3 a1_4 l2 = some r) :
  Calls Try.prog 10 #[.agg #[.int .i64 a0_0, .slice A0_1 l0_1.length c0_1], .agg #[.int .i64 a1_0, .int .i64 a1_1, .int .i64 a1_2, .int .i64 a1_3, .int .i64 a1_4], .slice A2 l2.length c2] w fun e w' => e = .returned (.bool r) ∧ Below w.heap.size w w' := by
 have hu24 := Try.underlying24
 have hu26 := Try.underlying26
 have hu73 := Try.underlying73
 have HR0_1 := Aside0.mk hr0_1
 have HC0_1 := Aside0.mk hc0_1
 clear hr0_1 hc0_1
 have HR2 := Aside0.mk hr2
 have HC2 := Aside0.mk hc2
 clear hr2 hc2
 have HB := Aside0.mk (Below.refl w.heap.size w)
 have H : ((warrantorref08_Large.f l0_1).bind fun t596 => (if t596 = true then (warrantorlaw14_PostBack.j0 k l2 true a0_0 l0_1 a1_0 a1_1 a1_2 a1_3 a1_4) else (if (l2.length : Int) > 20 then (warrantorlaw14_PostBack.j0 k l2 true a0_0 l0_1 a1_0 a1_1 a1_2 a1_3 a1_4) else ((warrantorref14_Check.f k a0_0 l0_1 a1_0 a1_1 a1_2 a1_3 a1_4).bind fun t597 => (warrantorlaw14_PostBack.j0 k l2 (t597 != 0) a0_0 l0_1 a1_0 a1_1 a1_2 a1_3 a1_4))))) = some r := h
 clear h
 have HC4 := Aside0.mk H
 clear H
 go_enter Try.func10, Try.ntmps10
 go_upto_region 1 with (first | ((with_reducible refine gate_dst (N := 3) rfl ?_); (try (refine gate_guard (by rfl) ?_; dsimp only)); refine bx_ (N := 3) (cs := #[.int .i64 a0_0, .slice A0_1 l0_1.length c0_1]) (t := 24) ?_; intro gb594 hg w5 hbox hb; have n_ := a_ (bs_ HB hb) (a_ (Aside0.mk hbox) (a_ (gs_ HB hg) (gs_ HB hg))); clear HB; obtain ⟨HB, BK594, GW594, GE594⟩ := n_; clear hb hbox hg) | ((with_reducible refine gate_dst (N := 4) rfl ?_); (try (refine gate_guard (by rfl) ?_; dsimp only)); refine bx_ (N := 4) (cs := #[.int .i64 a1_0, .int .i64 a1_1, .int .i64 a1_2, .int .i64 a1_3, .int .i64 a1_4]) (t := 26) ?_; intro gb595 hg w6 hbox hb; have n_ := a_ (bb_ BK594 hb) (a_ (bs_ HB hb) (a_ (Aside0.mk hbox) (a_ (gs_ HB hg) (a_ (gs_ HB hg) (a_ (nl_ BK594 hg) (ng_ BK594 hg)))))); clear BK594 HB; obtain ⟨BK594, HB, BK595, GW595, GE595, NB594_595, NB595_594⟩ := n_; clear hb hbox hg))
 (try simp only [Act.put, List.setIfInBounds_toArray, List.set_cons_zero, List.set_cons_succ])
 go_cut [31] (fun v31 wc => ∃ (kq : Nat) (x31_3 : Bool), v31 = .bool x31_3 ∧ Aside0 (warrantorlaw14_PostBack.j0 kq l2 x31_3 a0_0 l0_1 a1_0 a1_1 a1_2 a1_3 a1_4 = some r) ∧ Aside0 (kq ≤ k) ∧ Aside0 (wc.heap[gb594]? = some (.cells #[.int .i64 a0_0, (.slice A0_1 l0_1.length c0_1)] 24 (0, 0))) ∧ Aside0 (wc.heap[gb595]? = some (.cells #[.int .i64 a1_0, .int .i64 a1_1, .int .i64 a1_2, .int .i64 a1_3, .int .i64 a1_4] 26 (0, 0))) ∧ Aside0 (Below w.heap.size w wc))
 case first =>
  have H := HC4.out
  clear HC4
  replace H := bd_ H
  obtain ⟨t596, A7, H⟩ := H
  (try dsimp only at H)
  by_cases c8 : t596 = true
  · subst c8
    replace H := ps1_ H
    have H' := Aside0.mk H
    clear H
    have hnb9 := NB594_595.out
    have hnc9 := NB595_594.out
    obtain ⟨hcz10_0, hcz10_1, hfz10_0, hfz10_1⟩ := cz2_ BK594
    go_wp2_with (first | ((with_reducible refine gate_callee (f := 12) rfl ?_); refine goesL_ (some 20) rfl rfl Try.func12 (by kernel_rfl) rfl #[.slice A0_1 l0_1.length c0_1] rfl MP_ ?_; (with_reducible refine (warrantorref08_Large.calls _ _ l0_1 true _ ?side1 ?side2 A7.out).mono ?_); (case side1 => exact sd_ (Kd.C_below HR0_1.out HB.out)); (case side2 => exact HC0_1.out); rintro e w' ⟨rfl, ⟨nd, rfl⟩⟩; refine ⟨_, rfl, ?_⟩))
    go_meet
    case rel => exact ⟨_, (true), (by first | rfl | (simp; done) | (simp [*]; done)), H', ⟨by first | omega | exact Nat.le_refl _⟩, ⟨by (with_reducible repeat (first | refine blk_drewN ?_ _ | refine blk_drew ?_ | refine blk_alloc ?_ _)); exact BK594.out⟩, ⟨by (with_reducible repeat (first | refine blk_drewN ?_ _ | refine blk_drew ?_ | refine blk_alloc ?_ _)); exact BK595.out⟩, ⟨HB_⟩⟩
  replace c8 := Bool.eq_false_iff.mpr c8
  subst c8
  replace H := ng1_ H
  by_cases c11 : (l2.length : Int) > 20
  · rw [if_pos c11] at H
    have c11b0 : decide (20 < (l2.length : Int)) = true := decide_eq_true c11
    have c11b1 : decide (20 < l2.length) = true := decide_eq_true (by omega)
    clear c11
    (first | rw [c11b0] | (simp only [i64_w, i32_w]; rw [c11b0]) | skip)
    have H' := Aside0.mk H
    clear H
    have hnb12 := NB594_595.out
    have hnc12 := NB595_594.out
    obtain ⟨hcz13_0, hcz13_1, hfz13_0, hfz13_1⟩ := cz2_ BK594
    go_wp2_with (first | ((with_reducible refine gate_callee (f := 12) rfl ?_); refine goesL_ (some 20) rfl rfl Try.func12 (by kernel_rfl) rfl #[.slice A0_1 l0_1.length c0_1] rfl MP_ ?_; (with_reducible refine (warrantorref08_Large.calls _ _ l0_1 false _ ?side1 ?side2 A7.out).mono ?_); (case side1 => exact sd_ (Kd.C_below HR0_1.out HB.out)); (case side2 => exact HC0_1.out); rintro e w' ⟨rfl, ⟨nd, rfl⟩⟩; refine ⟨_, rfl, ?_⟩))
    go_meet
    case rel => exact ⟨_, (true), (by first | rfl | (simp; done) | (simp [*]; done)), H', ⟨by first | omega | exact Nat.le_refl _⟩, ⟨by (with_reducible repeat (first | refine blk_drewN ?_ _ | refine blk_drew ?_ | refine blk_alloc ?_ _)); exact BK594.out⟩, ⟨by (with_reducible repeat (first | refine blk_drewN ?_ _ | refine blk_drew ?_ | refine blk_alloc ?_ _)); exact BK595.out⟩, ⟨HB_⟩⟩
  rw [if_neg c11] at H
  have c11b0 : decide (20 < (l2.length : Int)) = false := decide_eq_false c11
  have c11b1 : decide (20 < l2.length) = false := decide_eq_false (by omega)
  clear c11
  (first | rw [c11b0] | (simp only [i64_w, i32_w]; rw [c11b0]) | skip)
  replace H := bd_ H
  obtain ⟨t597, A14, H⟩ := H
  (try dsimp only at H)
  have H' := Aside0.mk H
  clear H
  have hnb15 := NB594_595.out
  have hnc15 := NB595_594.out
  obtain ⟨hcz16_0, hcz16_1, hfz16_0, hfz16_1⟩ := cz2_ BK594
  go_wp2_with (first | ((with_reducible refine gate_callee (f := 12) rfl ?_); refine goesL_ (some 20) rfl rfl Try.func12 (by kernel_rfl) rfl #[.slice A0_1 l0_1.length c0_1] rfl MP_ ?_; (with_reducible refine (warrantorref08_Large.calls _ _ l0_1 false _ ?side1 ?side2 A7.out).mono ?_); (case side1 => exact sd_ (Kd.C_below HR0_1.out HB.out)); (case side2 => exact HC0_1.out); rintro e w' ⟨rfl, ⟨nd, rfl⟩⟩; refine ⟨_, rfl, ?_⟩; obtain ⟨hcz17_0, hcz17_1, hcz17_2, hcz17_3, hcz17_4, hfz17_0, hfz17_1, hfz17_2, hfz17_3, hfz17_4⟩ := cz5_ BK595) | (go_at_call 14; (with_reducible refine (warrantorref14_Check.calls k a0_0 _ _ l0_1 a1_0 a1_1 a1_2 a1_3 a1_4 t597 _ ?side1 ?side2 A14.out).mono ?_); (case side1 => repeat (first | exact (Kd.C_below HR0_1.out HB_) | (with_reducible refine Kd.C_alloc ?_ _) | (with_reducible refine Kd.C_drewN ?_ _) | (with_reducible refine Kd.C_drew ?_))); (case side2 => exact HC0_1.out); rintro e w18 ⟨rfl, hb⟩; have n_ := a_ (bb_ BK594 hb) (a_ (bb_ BK595 hb) (bs_ HB hb)); clear BK594 BK595 HB; obtain ⟨BK594, BK595, HB⟩ := n_; (try clear hb); (try clear hb2); (try clear hk); (try clear hi)))
  go_meet
  case rel => exact ⟨_, ((t597 != 0)), (by first | rfl | (simp; done) | (simp [*]; done)), H', ⟨by first | omega | exact Nat.le_refl _⟩, ⟨by (with_reducible repeat (first | refine blk_drewN ?_ _ | refine blk_drew ?_ | refine blk_alloc ?_ _)); exact BK594.out⟩, ⟨by (with_reducible repeat (first | refine blk_drewN ?_ _ | refine blk_drew ?_ | refine blk_alloc ?_ _)); exact BK595.out⟩, ⟨HB_⟩⟩
 case rest =>
  clear HC4
  try clear c1
  try clear c2
  try clear p2
  try clear c8
  try clear c9
  try clear c10
  try clear c11
  try clear c11b0
  try clear c11b1
  try clear c12
  try clear c15
  try clear hcz10_0
  try clear hcz10_1
  try clear hcz13_0
  try clear hcz13_1
  try clear hcz16_0
  try clear hcz16_1
  try clear hcz17_0
  try clear hcz17_1
  try clear hcz17_2
  try clear hcz17_3
  try clear hcz17_4
  try clear hfz10_0
  try clear hfz10_1
  try clear hfz13_0
  try clear hfz13_1
  try clear hfz16_0
  try clear hfz16_1
  try clear hfz17_0
  try clear hfz17_1
  try clear hfz17_2
  try clear hfz17_3
  try clear hfz17_4
  obtain ⟨kq, x31_3, rfl, HA, HJ3, BK594, BK595, HB⟩ := hcut
  cases kq with
  | zero => exact absurd HA.out (by simp [warrantorlaw14_PostBack.j0])
  | succ kj3 =>
    have H := HA.out
    clear HA
    simp only [warrantorlaw14_PostBack.j0] at H
    by_cases c19 : x31_3 = true
    · subst c19
      replace H := ps1_ H
      replace H := bd_ H
      obtain ⟨t598, A20, H⟩ := H
      (try dsimp only at H)
      obtain rfl := Option.some.inj H
      go_wp2_with (first | ((with_reducible refine gate_callee (f := 13) rfl ?_); refine goesL_ (some 32) rfl rfl Try.func13 (by kernel_rfl) rfl #[] rfl MP_ ?_; (with_reducible refine (warrantorlaw14_lives.calls kj3  t598 _ A20.out).mono ?_); rintro e w21 ⟨rfl, hb⟩; refine ⟨_, rfl, ?_⟩; have n_ := a_ (bb_ BK594 hb) (a_ (bb_ BK595 hb) (bs_ HB hb)); clear BK594 BK595 HB; obtain ⟨BK594, BK595, HB⟩ := n_; (try clear hb); (try clear hb2); (try clear hk); (try clear hi)))
      go_ret
      exact ⟨by first | rfl | (simp [errW_none, errW_some] <;> rfl) | (simp [*, errW_none, errW_some] <;> rfl), HB_⟩
    replace c19 := Bool.eq_false_iff.mpr c19
    subst c19
    replace H := ng1_ H
    replace H := bd_ H
    obtain ⟨⟨t599, t600, t603⟩, A22, H⟩ := H
    (try dsimp only at H)
    replace H := bd_ H
    obtain ⟨t605, A23, H⟩ := H
    (try dsimp only at H)
    replace H := yes_ H
    obtain ⟨c24, H⟩ := H
    subst c24
    replace H := bd_ H
    obtain ⟨t606, A25, H⟩ := H
    (try dsimp only at H)
    by_cases c26 : t606 = true
    rotate_left
    · replace c26 := Bool.eq_false_iff.mpr c26
      subst c26
      replace H := ng1_ H
      obtain rfl := Option.some.inj H
      have hnb140 := NB594_595.out
      have hnc140 := NB595_594.out
      obtain ⟨hcz141_0, hcz141_1, hfz141_0, hfz141_1⟩ := cz2_ BK594
      obtain ⟨hcz142_0, hcz142_1, hcz142_2, hcz142_3, hcz142_4, hfz142_0, hfz142_1, hfz142_2, hfz142_3, hfz142_4⟩ := cz5_ BK595
      go_wp2_with (first | ((with_reducible refine gate_callee (f := 15) rfl ?_); refine goesL_ (some 36) rfl rfl Try.func15 (by kernel_rfl) rfl #[.agg #[.int .i64 a0_0, .slice A0_1 l0_1.length c0_1], .agg #[.int .i64 a1_0, .int .i64 a1_1, .int .i64 a1_2, .int .i64 a1_3, .int .i64 a1_4]] rfl MP_ ?_; (with_reducible refine (post_Post.calls kj3 a0_0 _ _ l0_1 a1_0 a1_1 a1_2 a1_3 a1_4 t599 t600 t603 _ ?side1 ?side2 A22.out).mono ?_); (case side1 => exact sd_ (Kd.C_below HR0_1.out HB.out)); (case side2 => exact HC0_1.out); rintro e w143 ⟨v601, rfl, ho0, hb⟩; refine ⟨_, rfl, ?_⟩; have n_ := a_ (Aside0.mk (Kd.R_lower ho0 (below_size HB_))) (a_ (bb_ BK594 hb) (a_ (bb_ BK595 hb) (bs_ HB hb))); clear BK594 BK595 HB; obtain ⟨HO602, BK594, BK595, HB⟩ := n_; (try clear hb); (try clear hb2); (try clear hk); (try clear hi); (try clear ho0)) | ((with_reducible refine gate_dst (N := 7) rfl ?_); (try (refine gate_guard (by rfl) ?_; dsimp only)); refine bx_ (N := 7) (cs := #[.int .i64 0, .slice none 0 0]) (t := 24) ?_; intro gb604 hg w144 hbox hb; have n_ := a_ (rb_ HO602 hb) (a_ (bb_ BK594 hb) (a_ (bb_ BK595 hb) (a_ (bs_ HB hb) (a_ (Aside0.mk hbox) (a_ (gs_ HB hg) (a_ (gs_ HB hg) (a_ (nl_ BK594 hg) (a_ (ng_ BK594 hg) (a_ (nl_ BK595 hg) (ng_ BK595 hg)))))))))); clear HO602 BK594 BK595 HB; obtain ⟨HO602, BK594, BK595, HB, BK604, GW604, GE604, NB594_604, NB604_594, NB595_604, NB604_595⟩ := n_; clear hb hbox hg; have hnb145 := NB604_594.out; have hnc145 := NB594_604.out; have hnb146 := NB604_595.out; have hnc146 := NB595_604.out; obtain ⟨hcz147_0, hcz147_1, hfz147_0, hfz147_1⟩ := cz2_ BK604; obtain ⟨Ao148, co148, eo148⟩ := Kd.R_slice HO602.out; subst eo148) | ((with_reducible refine gate_callee (f := 13) rfl ?_); refine goesL_ (some 39) rfl rfl Try.func13 (by kernel_rfl) rfl #[] rfl MP_ ?_; (with_reducible refine (warrantorlaw14_lives.calls kj3  true _ A23.out).mono ?_); rintro e w149 ⟨rfl, hb⟩; refine ⟨_, rfl, ?_⟩; have n_ := a_ (Aside0.mk (Kd.R_below (rd_ (rf2_ HO602 BK604 (.int .i64 t599) (.slice Ao148 t600.length co148))) hb)) (a_ (bc_ #[.int .i64 a0_0, .slice A0_1 l0_1.length c0_1] 24 BK594 hb) (a_ (bc_ #[.int .i64 a1_0, .int .i64 a1_1, .int .i64 a1_2, .int .i64 a1_3, .int .i64 a1_4] 26 BK595 hb) (a_ (bc_ #[.int .i64 t599, .slice Ao148 t600.length co148] 24 BK604 hb) (bs_ HB hb)))); clear HO602 BK594 BK595 BK604 HB; obtain ⟨HO602, BK594, BK595, BK604, HB⟩ := n_; (try clear hb); (try clear hb2); (try clear hk); (try clear hi); obtain ⟨hcz150_0, hcz150_1, hfz150_0, hfz150_1⟩ := cz2_ BK604) | ((with_reducible refine gate_callee (f := 45) rfl ?_); refine goesL_ (some 43) rfl rfl Try.func45 (by kernel_rfl) rfl #[.agg #[.int .i64 t599, .slice Ao148 t600.length co148], .slice A2 l2.length c2] rfl MP_ ?_; (with_reducible refine (dbm_Has.calls kj3 t599 _ _ t600 _ _ l2 false _ ?side1 ?side2 ?side3 ?side4 A25.out).mono ?_); (case side1 => repeat (first | exact (Kd.R_reads' HO602.out).2.2 | (with_reducible refine Kd.C_alloc ?_ _) | (with_reducible refine Kd.C_drewN ?_ _) | (with_reducible refine Kd.C_drew ?_))); (case side2 => exact (Kd.R_reads' HO602.out).2.1); (case side3 => exact sd_ (Kd.C_below HR2.out HB.out)); (case side4 => exact HC2.out); rintro e w151 ⟨rfl, hb⟩; refine ⟨_, rfl, ?_⟩; have n_ := a_ (rb_ HO602 hb) (a_ (bb_ BK594 hb) (a_ (bb_ BK595 hb) (a_ (bb_ BK604 hb) (bs_ HB hb)))); clear HO602 BK594 BK595 BK604 HB; obtain ⟨HO602, BK594, BK595, BK604, HB⟩ := n_; (try clear hb); (try clear hb2); (try clear hk); (try clear hi)))
      go_ret
      exact ⟨by first | rfl | (simp [errW_none, errW_some] <;> rfl) | (simp [*, errW_none, errW_some] <;> rfl), HB_⟩
    subst c26
    replace H := ps1_ H
    replace H := yes_ H
    obtain ⟨c27, H⟩ := H
    have c27b0 : ((l2.length : Int) == a0_0) = true := beq_iff_eq.mpr c27
    have c27b1 : ((l2.length : Int) != a0_0) = false := bne_eq_false_iff_eq.mpr c27
    clear c27
    obtain ⟨y607, hy607⟩ : ∃ y_ : List Int, y_ = (([] : List Int)) := ⟨_, rfl⟩
    replace H : (if y607.length + l2.length < 17592186044416 then ((some (y607 ++ l2 : List Int)).bind fun y610 => (if a1_0 = 2 then (warrantorlaw14_PostBack.j1 kj3 l2 y610 0 (a1_1 == a1_2) a0_0 l0_1 a1_0 a1_1 a1_2 a1_3 a1_4) else (warrantorlaw14_PostBack.j1 kj3 l2 y610 0 false a0_0 l0_1 a1_0 a1_1 a1_2 a1_3 a1_4))) else (none)) = some r := by first | (rw [hy607]; with_reducible exact H) | (have H2_ := (Option.bind_some _ _).symm.trans H; rw [hy607]; with_reducible exact H2_) | (have H2_ := (Option.bind_some _ _).symm.trans H; with_reducible exact H2_) | with_reducible exact H | (rw [hy607]; exact H) | exact H
    have Ny607 := Aside0.mk hy607
    clear hy607
    replace H := yes_ H
    obtain ⟨c28, H⟩ := H
    have LMc28 := Aside0.mk c28
    clear c28
    obtain ⟨y610, hy610⟩ : ∃ y_ : List Int, y_ = (y607 ++ l2) := ⟨_, rfl⟩
    replace H : (if a1_0 = 2 then (warrantorlaw14_PostBack.j1 kj3 l2 y610 0 (a1_1 == a1_2) a0_0 l0_1 a1_0 a1_1 a1_2 a1_3 a1_4) else (warrantorlaw14_PostBack.j1 kj3 l2 y610 0 false a0_0 l0_1 a1_0 a1_1 a1_2 a1_3 a1_4)) = some r := by first | (rw [hy610]; with_reducible exact H) | (have H2_ := (Option.bind_some _ _).symm.trans H; rw [hy610]; with_reducible exact H2_) | (have H2_ := (Option.bind_some _ _).symm.trans H; with_reducible exact H2_) | with_reducible exact H | (rw [hy610]; exact H) | exact H
    have Ny610 := Aside0.mk hy610
    clear hy610
    have HC29 := Aside0.mk H
    clear H
    have hnb30 := NB594_595.out
    have hnc30 := NB595_594.out
    obtain ⟨hcz31_0, hcz31_1, hfz31_0, hfz31_1⟩ := cz2_ BK594
    obtain ⟨hcz32_0, hcz32_1, hcz32_2, hcz32_3, hcz32_4, hfz32_0, hfz32_1, hfz32_2, hfz32_3, hfz32_4⟩ := cz5_ BK595
    go_upto_region 12 with (first | ((with_reducible refine gate_callee (f := 15) rfl ?_); refine goesL_ (some 36) rfl rfl Try.func15 (by kernel_rfl) rfl #[.agg #[.int .i64 a0_0, .slice A0_1 l0_1.length c0_1], .agg #[.int .i64 a1_0, .int .i64 a1_1, .int .i64 a1_2, .int .i64 a1_3, .int .i64 a1_4]] rfl MP_ ?_; (with_reducible refine (post_Post.calls kj3 a0_0 _ _ l0_1 a1_0 a1_1 a1_2 a1_3 a1_4 t599 t600 t603 _ ?side1 ?side2 A22.out).mono ?_); (case side1 => exact sd_ (Kd.C_below HR0_1.out HB.out)); (case side2 => exact HC0_1.out); rintro e w33 ⟨v601, rfl, ho0, hb⟩; refine ⟨_, rfl, ?_⟩; have n_ := a_ (Aside0.mk (Kd.R_lower ho0 (below_size HB_))) (a_ (bb_ BK594 hb) (a_ (bb_ BK595 hb) (bs_ HB hb))); clear BK594 BK595 HB; obtain ⟨HO602, BK594, BK595, HB⟩ := n_; (try clear hb); (try clear hb2); (try clear hk); (try clear hi); (try clear ho0)) | ((with_reducible refine gate_dst (N := 7) rfl ?_); (try (refine gate_guard (by rfl) ?_; dsimp only)); refine bx_ (N := 7) (cs := #[.int .i64 0, .slice none 0 0]) (t := 24) ?_; intro gb604 hg w34 hbox hb; have n_ := a_ (rb_ HO602 hb) (a_ (bb_ BK594 hb) (a_ (bb_ BK595 hb) (a_ (bs_ HB hb) (a_ (Aside0.mk hbox) (a_ (gs_ HB hg) (a_ (gs_ HB hg) (a_ (nl_ BK594 hg) (a_ (ng_ BK594 hg) (a_ (nl_ BK595 hg) (ng_ BK595 hg)))))))))); clear HO602 BK594 BK595 HB; obtain ⟨HO602, BK594, BK595, HB, BK604, GW604, GE604, NB594_604, NB604_594, NB595_604, NB604_595⟩ := n_; clear hb hbox hg; have hnb35 := NB604_594.out; have hnc35 := NB594_604.out; have hnb36 := NB604_595.out; have hnc36 := NB595_604.out; obtain ⟨hcz37_0, hcz37_1, hfz37_0, hfz37_1⟩ := cz2_ BK604; obtain ⟨Ao38, co38, eo38⟩ := Kd.R_slice HO602.out; subst eo38) | ((with_reducible refine gate_callee (f := 13) rfl ?_); refine goesL_ (some 39) rfl rfl Try.func13 (by kernel_rfl) rfl #[] rfl MP_ ?_; (with_reducible refine (warrantorlaw14_lives.calls kj3  true _ A23.out).mono ?_); rintro e w39 ⟨rfl, hb⟩; refine ⟨_, rfl, ?_⟩; have n_ := a_ (Aside0.mk (Kd.R_below (rd_ (rf2_ HO602 BK604 (.int .i64 t599) (.slice Ao38 t600.length co38))) hb)) (a_ (bc_ #[.int .i64 a0_0, .slice A0_1 l0_1.length c0_1] 24 BK594 hb) (a_ (bc_ #[.int .i64 a1_0, .int .i64 a1_1, .int .i64 a1_2, .int .i64 a1_3, .int .i64 a1_4] 26 BK595 hb) (a_ (bc_ #[.int .i64 t599, .slice Ao38 t600.length co38] 24 BK604 hb) (bs_ HB hb)))); clear HO602 BK594 BK595 BK604 HB; obtain ⟨HO602, BK594, BK595, BK604, HB⟩ := n_; (try clear hb); (try clear hb2); (try clear hk); (try clear hi); obtain ⟨hcz40_0, hcz40_1, hfz40_0, hfz40_1⟩ := cz2_ BK604) | ((with_reducible refine gate_callee (f := 45) rfl ?_); refine goesL_ (some 43) rfl rfl Try.func45 (by kernel_rfl) rfl #[.agg #[.int .i64 t599, .slice Ao38 t600.length co38], .slice A2 l2.length c2] rfl MP_ ?_; (with_reducible refine (dbm_Has.calls kj3 t599 _ _ t600 _ _ l2 true _ ?side1 ?side2 ?side3 ?side4 A25.out).mono ?_); (case side1 => repeat (first | exact (Kd.R_reads' HO602.out).2.2 | (with_reducible refine Kd.C_alloc ?_ _) | (with_reducible refine Kd.C_drewN ?_ _) | (with_reducible refine Kd.C_drew ?_))); (case side2 => exact (Kd.R_reads' HO602.out).2.1); (case side3 => exact sd_ (Kd.C_below HR2.out HB.out)); (case side4 => exact HC2.out); rintro e w41 ⟨rfl, hb⟩; refine ⟨_, rfl, ?_⟩; have n_ := a_ (rb_ HO602 hb) (a_ (bb_ BK594 hb) (a_ (bb_ BK595 hb) (a_ (bb_ BK604 hb) (bs_ HB hb)))); clear HO602 BK594 BK595 BK604 HB; obtain ⟨HO602, BK594, BK595, BK604, HB⟩ := n_; (try clear hb); (try clear hb2); (try clear hk); (try clear hi); obtain ⟨hcz42_0, hcz42_1, hfz42_0, hfz42_1⟩ := cz2_ BK594) | ((with_reducible refine gate_dst (N := 50) rfl ?_); (try (refine gate_guard (by rfl) ?_; dsimp only)); refine Kd.R_lit (Kd.int .i64) _ 3 ?hg (N := 50) ?hd (xs := ([] : List Int)) (inner := []) (ok := fun _ => True) (okp := fun _ => True) ?hr ?hp (fun _ hk => hk) trivial (Below.refl _ _) (Nat.le_refl _) (by simp) ?_; (case hd => rfl); (case hg => rfl); (case hr => first | (go_simp; done) | (go_simp; rfl)); (case hp => exact (Reps.none _ _)); intro v608 w43 ho44 hb hg_ hnew_; clear hg_ hnew_; (first | rw [← Ny607.out] at ho44 | (simp only [Int.reduceToNat] at ho44; rw [← Ny607.out] at ho44)); have n_ := a_ (Aside0.mk (Kd.R_elder' (rd_ HO602.out) (Kd.R_base ho44) hb)) (a_ (Aside0.mk (Kd.R_lower (Kd.R_new' ho44 (Kd.R_lt (rd_ HO602.out))) (below_size HB_))) (a_ (bb_ BK594 hb) (a_ (bb_ BK595 hb) (a_ (bb_ BK604 hb) (bs_ HB hb))))); clear HO602 BK594 BK595 BK604 HB; obtain ⟨HO602, HO609, BK594, BK595, BK604, HB⟩ := n_; clear hb ho44) | ((with_reducible refine gate_builtin (b := .append) (xs := #[.tmp 50, .tmp 51]) rfl ?_); (try (refine gate_guard (by rfl) ?_; dsimp only)); at_builtin; refine Kd.R_append_rows (Kd.int .i64) (w0 := w) w.heap.size rfl (.tmp 50) (.tmp 51) 22 3 (.int .i64 0) 8 rfl Try.underlying22 info3 rfl (by decide) (by omega) v608 y607 l2 _ _ _ (fun k_ => some k_ ≠ (.slice Ao38 t600.length co38 : Value).ownBlock) (fun _ => False) rfl rfl ?aO ?aR (fun _ _ h => h) (fun _ h => h.elim) ?aF ?aB ?aS ?aL ?_; (case aR => exact sd_ (Kd.C_below HR2.out HB.out)); (case aB => exact HB_); (case aF => exact (fun k_ hk => Kd.fresh' (Kd.R_lt (rd_ HO602.out)) k_ hk)); (case aO => exact (rd_ (Kd.R_mono HO609.out (fun _ hk => hk.2)))); (case aS => exact (below_size HB_)); (case aL => have := LMc28.out; omega); intro v611 w45 ho hb hg hat; rw [← Ny610.out] at ho; have n_ := a_ (Aside0.mk (blk_grown (g := gb594) (o := .cells #[.int .i64 a0_0, .slice A0_1 l0_1.length c0_1] 24 (0, 0)) (bk_ BK594.out) hg (Kd.R_ne HO609.out BK594.out (by decide)))) (a_ (Aside0.mk (blk_grown (g := gb595) (o := .cells #[.int .i64 a1_0, .int .i64 a1_1, .int .i64 a1_2, .int .i64 a1_3, .int .i64 a1_4] 26 (0, 0)) (bk_ BK595.out) hg (Kd.R_ne HO609.out BK595.out (by decide)))) (a_ (Aside0.mk (Kd.R_after (ok := (fun _ => True)) (rd_ HO602.out) hg hat)) (a_ (Aside0.mk (blk_grown (g := gb604) (o := .cells #[.int .i64 t599, .slice Ao38 t600.length co38] 24 (0, 0)) (bk_ BK604.out) hg (Kd.R_ne HO609.out BK604.out (by decide)))) (a_ (Aside0.mk hb) (Aside0.mk ho))))); clear BK594 BK595 HO602 BK604 HB HO609; obtain ⟨BK594, BK595, HO602, BK604, HB, HO612⟩ := n_; clear ho hb hg hat))
    (try simp only [Act.put, List.setIfInBounds_toArray, List.set_cons_zero, List.set_cons_succ])
    go_cut [62] (fun v62 wc => ∃ (kq : Nat) (x62_28 : Bool), v62 = .bool x62_28 ∧ Aside0 (warrantorlaw14_PostBack.j1 kq l2 y610 0 x62_28 a0_0 l0_1 a1_0 a1_1 a1_2 a1_3 a1_4 = some r) ∧ Aside0 (kq ≤ kj3) ∧ Aside0 (Kd.R (Kd.int .i64) 3 wc w.heap.size (fun k_ => some k_ ≠ ((.slice Ao38 t600.length co38) : Value).ownBlock) v611 y610) ∧ Aside0 (Kd.R (Kd.int .i64) 3 wc w.heap.size (fun k_ => some k_ ≠ (v611 : Value).ownBlock) (.slice Ao38 t600.length co38) t600) ∧ Aside0 (wc.heap[gb594]? = some (.cells #[.int .i64 a0_0, (.slice A0_1 l0_1.length c0_1)] 24 (0, 0))) ∧ Aside0 (wc.heap[gb595]? = some (.cells #[.int .i64 a1_0, .int .i64 a1_1, .int .i64 a1_2, .int .i64 a1_3, .int .i64 a1_4] 26 (0, 0))) ∧ Aside0 (wc.heap[gb604]? = some (.cells #[.int .i64 t599, (.slice Ao38 t600.length co38)] 24 (0, 0))) ∧ Aside0 (Below w.heap.size w wc))
    case first =>
      have H := HC29.out
      clear HC29
      by_cases c46 : a1_0 = 2
      rotate_left
      · rw [if_neg c46] at H
        have c46b0 : (a1_0 == 2) = false := beq_eq_false_iff_ne.mpr c46
        have c46b1 : (a1_0 != 2) = true := bne_iff_ne.mpr c46
        (first | rw [c46b0] | (simp only [i64_w, i32_w]; rw [c46b0]) | skip)
        have H' := Aside0.mk H
        clear H
        have hnb50 := NB595_594.out
        have hnc50 := NB594_595.out
        have hnb51 := NB595_604.out
        have hnc51 := NB604_595.out
        obtain ⟨hcz52_0, hcz52_1, hcz52_2, hcz52_3, hcz52_4, hfz52_0, hfz52_1, hfz52_2, hfz52_3, hfz52_4⟩ := cz5_ BK595
        go_wp2
        go_meet
        case rel => exact ⟨_, (false), (by first | rfl | (simp; done) | (simp [*]; done)), H', ⟨by have := HJ3.out; first | omega | exact Nat.le_refl _⟩, ⟨by (with_reducible repeat (first | apply Kd.R_alloc | apply Kd.R_drewN | apply Kd.R_drew)); exact HO612.out⟩, ⟨by (with_reducible repeat (first | apply Kd.R_alloc | apply Kd.R_drewN | apply Kd.R_drew)); exact Kd.R_mono HO602.out (fun _ hk => hk.2)⟩, ⟨by (with_reducible repeat (first | refine blk_drewN ?_ _ | refine blk_drew ?_ | refine blk_alloc ?_ _)); exact BK594.out⟩, ⟨by (with_reducible repeat (first | refine blk_drewN ?_ _ | refine blk_drew ?_ | refine blk_alloc ?_ _)); exact BK595.out⟩, ⟨by (with_reducible repeat (first | refine blk_drewN ?_ _ | refine blk_drew ?_ | refine blk_alloc ?_ _)); exact BK604.out⟩, ⟨HB_⟩⟩
      rw [if_pos c46] at H
      have c46b0 : (a1_0 == 2) = true := beq_iff_eq.mpr c46
      have c46b1 : (a1_0 != 2) = false := bne_eq_false_iff_eq.mpr c46
      clear c46
      (first | rw [c46b0] | (simp only [i64_w, i32_w]; rw [c46b0]) | skip)
      have H' := Aside0.mk H
      clear H
      have hnb47 := NB595_594.out
      have hnc47 := NB594_595.out
      have hnb48 := NB595_604.out
      have hnc48 := NB604_595.out
      obtain ⟨hcz49_0, hcz49_1, hcz49_2, hcz49_3, hcz49_4, hfz49_0, hfz49_1, hfz49_2, hfz49_3, hfz49_4⟩ := cz5_ BK595
      go_wp2
      go_meet
      case rel => exact ⟨_, ((a1_1 == a1_2)), (by first | rfl | (simp; done) | (simp [*]; done)), H', ⟨by have := HJ3.out; first | omega | exact Nat.le_refl _⟩, ⟨by (with_reducible repeat (first | apply Kd.R_alloc | apply Kd.R_drewN | apply Kd.R_drew)); exact HO612.out⟩, ⟨by (with_reducible repeat (first | apply Kd.R_alloc | apply Kd.R_drewN | apply Kd.R_drew)); exact Kd.R_mono HO602.out (fun _ hk => hk.2)⟩, ⟨by (with_reducible repeat (first | refine blk_drewN ?_ _ | refine blk_drew ?_ | refine blk_alloc ?_ _)); exact BK594.out⟩, ⟨by (with_reducible repeat (first | refine blk_drewN ?_ _ | refine blk_drew ?_ | refine blk_alloc ?_ _)); exact BK595.out⟩, ⟨by (with_reducible repeat (first | refine blk_drewN ?_ _ | refine blk_drew ?_ | refine blk_alloc ?_ _)); exact BK604.out⟩, ⟨HB_⟩⟩
    case rest =>
      clear HC29
      try clear c1
      try clear c2
      try clear p2
      try clear c3
      try clear c4
      try clear c5
      try clear c8
      try clear c9
      try clear c10
      try clear c11
      try clear c11b0
      try clear c11b1
      try clear c12
      try clear c13
      try clear c15
      try clear c19
      try clear c24
      try clear c26
      try clear c27
      try clear c27b0
      try clear c27b1
      try clear c28
      try clear c30
      try clear c35
      try clear c36
      try clear c45
      try clear c46
      try clear c46b0
      try clear c46b1
      try clear c47
      try clear c48
      try clear c50
      try clear c51
      try clear hcz10_0
      try clear hcz10_1
      try clear hcz13_0
      try clear hcz13_1
      try clear hcz16_0
      try clear hcz16_1
      try clear hcz17_0
      try clear hcz17_1
      try clear hcz17_2
      try clear hcz17_3
      try clear hcz17_4
      try clear hcz31_0
      try clear hcz31_1
      try clear hcz32_0
      try clear hcz32_1
      try clear hcz32_2
      try clear hcz32_3
      try clear hcz32_4
      try clear hcz37_0
      try clear hcz37_1
      try clear hcz40_0
      try clear hcz40_1
      try clear hcz42_0
      try clear hcz42_1
      try clear hcz49_0
      try clear hcz49_1
      try clear hcz49_2
      try clear hcz49_3
      try clear hcz49_4
      try clear hcz52_0
      try clear hcz52_1
      try clear hcz52_2
      try clear hcz52_3
      try clear hcz52_4
      try clear hfz10_0
      try clear hfz10_1
      try clear hfz13_0
      try clear hfz13_1
      try clear hfz16_0
      try clear hfz16_1
      try clear hfz17_0
      try clear hfz17_1
      try clear hfz17_2
      try clear hfz17_3
      try clear hfz17_4
      try clear hfz31_0
      try clear hfz31_1
      try clear hfz32_0
      try clear hfz32_1
      try clear hfz32_2
      try clear hfz32_3
      try clear hfz32_4
      try clear hfz37_0
      try clear hfz37_1
      try clear hfz40_0
      try clear hfz40_1
      try clear hfz42_0
      try clear hfz42_1
      try clear hfz49_0
      try clear hfz49_1
      try clear hfz49_2
      try clear hfz49_3
      try clear hfz49_4
      try clear hfz52_0
      try clear hfz52_1
      try clear hfz52_2
      try clear hfz52_3
      try clear hfz52_4
      try clear p2
      obtain ⟨kq, x62_28, rfl, HA, HJ28, HO_9, HO_605001, BK594, BK595, BK604, HB⟩ := hcut
      cases kq with
      | zero => exact absurd HA.out (by simp [warrantorlaw14_PostBack.j1])
      | succ kj28 =>
        have H := HA.out
        clear HA
        simp only [warrantorlaw14_PostBack.j1] at H
        have HC53 := Aside0.mk H
        clear H
        go_upto_if 62 with (fail)
        go_cut [9] (fun v9 wc => ∃ (kq : Nat) (x9_52 : List Int), Aside0 (warrantorlaw14_PostBack.j2 kq l2 x9_52 0 a0_0 l0_1 a1_0 a1_1 a1_2 a1_3 a1_4 = some r) ∧ Aside0 (kq ≤ kj28) ∧ Aside0 (Kd.R (Kd.int .i64) 3 wc w.heap.size (fun k_ => some k_ ≠ ((.slice Ao38 t600.length co38) : Value).ownBlock) v9 x9_52) ∧ Aside0 (Kd.R (Kd.int .i64) 3 wc w.heap.size (fun k_ => some k_ ≠ (v9 : Value).ownBlock) (.slice Ao38 t600.length co38) t600) ∧ Aside0 (wc.heap[gb594]? = some (.cells #[.int .i64 a0_0, (.slice A0_1 l0_1.length c0_1)] 24 (0, 0))) ∧ Aside0 (wc.heap[gb595]? = some (.cells #[.int .i64 a1_0, .int .i64 a1_1, .int .i64 a1_2, .int .i64 a1_3, .int .i64 a1_4] 26 (0, 0))) ∧ Aside0 (wc.heap[gb604]? = some (.cells #[.int .i64 t599, (.slice Ao38 t600.length co38)] 24 (0, 0))) ∧ Aside0 (Below w.heap.size w wc))
        case first =>
         have H := HC53.out
         clear HC53
         by_cases c54 : x62_28 = true
         rotate_left
         · replace c54 := Bool.eq_false_iff.mpr c54
           subst c54
           replace H := ng1_ H
           have H' := Aside0.mk H
           clear H
           go_wp2
           go_meet
           case rel => exact ⟨_, (y610), H', ⟨by have := HJ3.out; have := HJ28.out; first | omega | exact Nat.le_refl _⟩, ⟨by (with_reducible repeat (first | apply Kd.R_alloc | apply Kd.R_drewN | apply Kd.R_drew)); exact HO_9.out⟩, ⟨by (with_reducible repeat (first | apply Kd.R_alloc | apply Kd.R_drewN | apply Kd.R_drew)); exact HO_605001.out⟩, ⟨by (with_reducible repeat (first | refine blk_drewN ?_ _ | refine blk_drew ?_ | refine blk_alloc ?_ _)); exact BK594.out⟩, ⟨by (with_reducible repeat (first | refine blk_drewN ?_ _ | refine blk_drew ?_ | refine blk_alloc ?_ _)); exact BK595.out⟩, ⟨by (with_reducible repeat (first | refine blk_drewN ?_ _ | refine blk_drew ?_ | refine blk_alloc ?_ _)); exact BK604.out⟩, ⟨HB_⟩⟩
         subst c54
         replace H := ps1_ H
         obtain ⟨ji55, hji55⟩ : ∃ j_ : Int, (wrap64 (a1_1 - 1)) = j_ := ⟨_, rfl⟩
         replace H : (if 0 ≤ (ji55) then (if (ji55) < (l2.length : Int) then ((warrantorref13_With.f l2 a1_1 (wrap64 ((rd l2 (ji55)) - a1_3))).bind fun t614 => (warrantorlaw14_PostBack.j2 kj28 l2 t614 0 a0_0 l0_1 a1_0 a1_1 a1_2 a1_3 a1_4)) else (none)) else (none)) = some r := by first | (rw [hji55] at H; exact H) | (simp only [hji55] at H ⊢; exact H)
         have hji55w : (IntKind.i64.wrap (a1_1 - 1)) = ji55 := (i64_w _).trans hji55
         replace H := yes_ H
         obtain ⟨c56, H⟩ := H
         have c56b0 : decide (0 ≤ (ji55)) = true := decide_eq_true c56
         clear c56
         (first | rw [c56b0] | (simp only [i64_w, i32_w]; rw [c56b0]) | skip)
         replace H := yes_ H
         obtain ⟨c57, H⟩ := H
         have c57b0 : decide ((ji55) < (l2.length : Int)) = true := decide_eq_true c57
         clear c57
         replace H := bd_ H
         obtain ⟨t614, A58, H⟩ := H
         (try dsimp only at H)
         have H' := Aside0.mk H
         clear H
         try go_wp2
         have n_ := a_ (Aside0.mk (Kd.R_drew HO_9.out)) (a_ (Aside0.mk (Kd.R_drew HO_605001.out)) (a_ (Aside0.mk (blk_drew BK594.out)) (a_ (Aside0.mk (blk_drew BK595.out)) (a_ (Aside0.mk (blk_drew BK604.out)) (Aside0.mk (below_drew1 HB.out))))))
         clear HO_9 HO_605001 BK594 BK595 BK604 HB
         obtain ⟨HO_9, HO_605001, BK594, BK595, BK604, HB⟩ := n_
         have p613 : 0 ≤ ((ji55) : Int) := of_decide_eq_true (by first | (with_reducible assumption) | assumption)
         have q613 : (ji55) < (l2.length : Int) := of_decide_eq_true (by first | (with_reducible assumption) | assumption)
         obtain ⟨ad613, e613, hx613_0⟩ := Kd.at_int HR2.out (ji55) p613 q613
         have hw613_0 := hx613_0
         cases e613
         first | (replace hx613_0 := (HB.out.cell (World.block_lt_of_cell? w _ hx613_0)).trans hx613_0) | skip
         replace p613 := eq_true p613
         replace q613 := eq_true q613
         refine start_ (n := 14) (S := fun w' => w'.cell? ⟨gb595, 0, none⟩ = some (.int .i64 a1_0) ∧ w'.cell? ⟨gb595, 1, none⟩ = some (.int .i64 a1_1) ∧ w'.cell? ⟨gb595, 2, none⟩ = some (.int .i64 a1_2) ∧ w'.cell? ⟨gb595, 3, none⟩ = some (.int .i64 a1_3) ∧ w'.cell? ⟨gb595, 4, none⟩ = some (.int .i64 a1_4) ∧ w'.cell? (ad613.add ((ji55)).toNat) = some (.int .i64 (rd l2 (ji55)))) (ds := []) #[false, false, false, false, false, false, false, false, false, false, false, false, false, false] (by kernel_rfl) rfl rfl ⟨(blk_cell BK595.out 0).trans rfl, (blk_cell BK595.out 1).trans rfl, (blk_cell BK595.out 2).trans rfl, (blk_cell BK595.out 3).trans rfl, (blk_cell BK595.out 4).trans rfl, ((HB.out.cell (World.block_lt_of_cell? w _ hw613_0)).trans hw613_0)⟩ (fun hHeld => ?_); refine with_tabW warrantorlaw14_PostBack.tab13 warrantorlaw14_PostBack.bits13 (fun HT_ HW_ => ?_)
         generalize wc.drew = w59 at HO_9 HO_605001 BK594 BK595 BK604 HB hx613_0 hHeld ⊢
         refine pure_ (i := 0) (N := some 63) (v := ?_) (a' := ?_) #[true, false, false, false, false, false, false, false, false, false, false, false, false, false] rfl rfl (any_of HT_.out (by kernel_rfl)) (fun _ _ _ h => h) (Or.inl ⟨by rfl, ?_⟩) ?_ ?_
         rotate_left
         · intro w'
           go_simp
           with_reducible rfl
         rotate_left
         · exact AP_
         refine pure_ (i := 1) (N := some 64) (v := ?_) (a' := ?_) #[true, true, false, false, false, false, false, false, false, false, false, false, false, false] rfl rfl (any_of HT_.out (by kernel_rfl)) (fun _ _ _ h => h) (Or.inl ⟨by rfl, ?_⟩) ?_ ?_
         rotate_left
         · intro w'
           go_simp
           with_reducible rfl
         rotate_left
         · exact AP_
         refine pure_ (i := 3) (N := some 66) (v := ?_) (a' := ?_) #[true, true, false, true, false, false, false, false, false, false, false, false, false, false] rfl rfl (any_of HT_.out (by kernel_rfl)) (fun _ _ _ h => h) (Or.inl ⟨by rfl, ?_⟩) ?_ ?_
         rotate_left
         · intro w'
           go_simp
           with_reducible rfl
         rotate_left
         · exact AP_
         refine pure_ (i := 4) (N := some 67) (v := ?_) (a' := ?_) #[true, true, false, true, true, false, false, false, false, false, false, false, false, false] rfl rfl (any_of HT_.out (by kernel_rfl)) (fun _ _ _ h => h) (Or.inl ⟨by rfl, ?_⟩) ?_ ?_
         rotate_left
         · intro w'
           go_simp
           with_reducible rfl
         rotate_left
         · exact AP_
         refine pure_ (i := 9) (N := some 72) (v := ?_) (a' := ?_) #[true, true, false, true, true, false, false, false, false, true, false, false, false, false] rfl rfl (any_of HT_.out (by kernel_rfl)) (fun _ _ _ h => h) (Or.inl ⟨by rfl, ?_⟩) ?_ ?_
         rotate_left
         · intro w'
           go_simp
           with_reducible rfl
         rotate_left
         · exact AP_
         refine take_ (i := 2) (N := some 65) (v := ?_) (a' := ?_) #[true, true, true, true, true, false, false, false, false, true, false, false, false, false] rfl rfl (take_ofW HT_.out HW_.out (by kernel_rfl)) (fun _ _ _ h => h) (Or.inl ⟨by rfl, ?_⟩) hHeld ?_ ?_
         rotate_left
         · rintro w' ⟨s0, s1, s2, s3, s4, s5⟩
           go_simp
           with_reducible rfl
         rotate_left
         · exact AP_
         refine take_ (i := 5) (N := some 68) (v := ?_) (a' := ?_) #[true, true, true, true, true, true, false, false, false, true, false, false, false, false] rfl rfl (take_ofW HT_.out HW_.out (by kernel_rfl)) (fun _ _ _ h => h) (Or.inl ⟨by rfl, ?_⟩) hHeld ?_ ?_
         rotate_left
         · rintro w' ⟨s0, s1, s2, s3, s4, s5⟩
           go_simp
           with_reducible rfl
         rotate_left
         · exact AP_
         refine pure_ (i := 6) (N := some 69) (v := ?_) (a' := ?_) #[true, true, true, true, true, true, true, false, false, true, false, false, false, false] rfl rfl (any_of HT_.out (by kernel_rfl)) (fun _ _ _ h => h) (Or.inl ⟨by rfl, ?_⟩) ?_ ?_
         rotate_left
         · intro w'
           go_simp
           with_reducible rfl
         rotate_left
         · exact AP_
         refine pure_ (i := 7) (N := some 70) (v := ?_) (a' := ?_) #[true, true, true, true, true, true, true, true, false, true, false, false, false, false] rfl rfl (any_of HT_.out (by kernel_rfl)) (fun _ _ _ h => h) (Or.inl ⟨by rfl, ?_⟩) ?_ ?_
         rotate_left
         · intro w'
           go_simp
           with_reducible rfl
         rotate_left
         · exact AP_
         refine take_ (i := 8) (N := some 71) (v := ?_) (a' := ?_) #[true, true, true, true, true, true, true, true, true, true, false, false, false, false] rfl rfl (take_ofW HT_.out HW_.out (by kernel_rfl)) (fun _ _ _ h => h) (Or.inl ⟨by rfl, ?_⟩) hHeld ?_ ?_
         rotate_left
         · rintro w' ⟨s0, s1, s2, s3, s4, s5⟩
           go_simp
           with_reducible rfl
         rotate_left
         · exact AP_
         refine take_ (i := 10) (N := some 73) (v := ?_) (a' := ?_) #[true, true, true, true, true, true, true, true, true, true, true, false, false, false] rfl rfl (take_ofW HT_.out HW_.out (by kernel_rfl)) (fun _ _ _ h => h) (Or.inl ⟨by rfl, ?_⟩) hHeld ?_ ?_
         rotate_left
         · rintro w' ⟨s0, s1, s2, s3, s4, s5⟩
           go_simp
           with_reducible rfl
         rotate_left
         · exact AP_
         refine pure_ (i := 11) (N := some 74) (v := ?_) (a' := ?_) #[true, true, true, true, true, true, true, true, true, true, true, true, false, false] rfl rfl (any_of HT_.out (by kernel_rfl)) (fun _ _ _ h => h) (Or.inl ⟨by rfl, ?_⟩) ?_ ?_
         rotate_left
         · intro w'
           go_simp
           with_reducible rfl
         rotate_left
         · exact AP_
         refine one_ (i := 12) (N := some 75) #[true, true, true, true, true, true, true, true, true, true, true, true, true, false] rfl rfl (one_of HT_.out (by kernel_rfl)) (by decide) (fun K hK => ?_)
         refine goes_ Try.func55 (by kernel_rfl) rfl #[.slice (some ad613) l2.length c2, .int .i64 a1_1, .int .i64 (wrap64 ((rd l2 (ji55)) - a1_3))] (by rfl) rfl rfl (by (try simp only [List.map_toArray, List.map_cons, List.map_nil]); first | done | (simp only [hji55]; rfl) | rfl | (simp only [List.length_drop, List.length_take]; rfl)) ?_
         with_reducible refine (warrantorref13_With.calls _ _ l2 a1_1 (wrap64 ((rd l2 (ji55)) - a1_3)) t614 _ ?side1 ?side2 A58.out).mono ?_
         (case side1 => exact sd_ (Kd.C_below HR2.out HB.out))
         (case side2 => exact HC2.out)
         rintro e w60 ⟨v615, rfl, ho0, hb⟩
         refine ⟨_, rfl, ?_⟩
         have n_ := a_ (Aside0.mk (Kd.R_elder' (rd_ HO_9.out) (Kd.R_base ho0) hb)) (a_ (Aside0.mk (Kd.R_elder' (rd_ HO_605001.out) (Kd.R_base ho0) hb)) (a_ (Aside0.mk (Kd.R_lower (Kd.R_new' (Kd.R_new' ho0 (Kd.R_lt (rd_ HO_9.out))) (Kd.R_lt (rd_ HO_605001.out))) (below_size HB_))) (a_ (bb_ BK594 hb) (a_ (bb_ BK595 hb) (a_ (bb_ BK604 hb) (bs_ HB hb))))))
         clear HO_9 HO_605001 BK594 BK595 BK604 HB
         obtain ⟨HO_9, HO_605001, HO616, BK594, BK595, BK604, HB⟩ := n_
         (try clear hb)
         (try clear hb2)
         (try clear hk)
         (try clear hi)
         (try clear ho0)
         refine hK.out _ _ ⟨(blk_cell BK595.out 0).trans rfl, (blk_cell BK595.out 1).trans rfl, (blk_cell BK595.out 2).trans rfl, (blk_cell BK595.out 3).trans rfl, (blk_cell BK595.out 4).trans rfl, ((HB.out.cell (World.block_lt_of_cell? w _ hw613_0)).trans hw613_0)⟩ (fun hHeld => ?_)
         clear hK K
         refine norm_ (a' := ?_) ?_ ?_
         rotate_left
         · show Act.put _ (some 75) _ = _
           simp only [Act.put, List.setIfInBounds_toArray, List.set_cons_zero, List.set_cons_succ, i64_w, i32_w]
           rfl
         refine pure_ (i := 13) (N := some 9) (v := ?_) (a' := ?_) #[true, true, true, true, true, true, true, true, true, true, true, true, true, true] rfl rfl (any_of HT_.out (by kernel_rfl)) (fun _ _ _ h => h) (Or.inl ⟨by rfl, ?_⟩) ?_ ?_
         rotate_left
         · intro w'
           go_simp
           with_reducible rfl
         rotate_left
         · exact AP_
         refine done_ (done_of HT_.out (by kernel_rfl)) ?_
         try go_wp2
         go_meet
         case rel => exact ⟨_, (t614), H', ⟨by have := HJ3.out; have := HJ28.out; first | omega | exact Nat.le_refl _⟩, ⟨by (with_reducible repeat (first | apply Kd.R_alloc | apply Kd.R_drewN | apply Kd.R_drew)); exact Kd.R_mono HO616.out (fun _ hk => hk.2)⟩, ⟨by (with_reducible repeat (first | apply Kd.R_alloc | apply Kd.R_drewN | apply Kd.R_drew)); exact Kd.R_mono HO_605001.out (fun _ hk => hk.2)⟩, ⟨by (with_reducible repeat (first | refine blk_drewN ?_ _ | refine blk_drew ?_ | refine blk_alloc ?_ _)); exact BK594.out⟩, ⟨by (with_reducible repeat (first | refine blk_drewN ?_ _ | refine blk_drew ?_ | refine blk_alloc ?_ _)); exact BK595.out⟩, ⟨by (with_reducible repeat (first | refine blk_drewN ?_ _ | refine blk_drew ?_ | refine blk_alloc ?_ _)); exact BK604.out⟩, ⟨HB_⟩⟩
        case rest =>
         clear HC53
         try clear c1
         try clear c2
         try clear p2
         try clear c3
         try clear c4
         try clear c5
         try clear p6
         try clear q6
         try clear hx6
         try clear c8
         try clear c9
         try clear c10
         try clear c11
         try clear c11b0
         try clear c11b1
         try clear c12
         try clear c13
         try clear c15
         try clear c19
         try clear c24
         try clear c26
         try clear c27
         try clear c27b0
         try clear c27b1
         try clear c28
         try clear c30
         try clear c35
         try clear c36
         try clear c45
         try clear c46
         try clear c46b0
         try clear c46b1
         try clear c47
         try clear c48
         try clear c50
         try clear c51
         try clear c54
         try clear c55
         try clear c56
         try clear c56b0
         try clear c57
         try clear c57b0
         try clear hcz10_0
         try clear hcz10_1
         try clear hcz13_0
         try clear hcz13_1
         try clear hcz16_0
         try clear hcz16_1
         try clear hcz17_0
         try clear hcz17_1
         try clear hcz17_2
         try clear hcz17_3
         try clear hcz17_4
         try clear hcz31_0
         try clear hcz31_1
         try clear hcz32_0
         try clear hcz32_1
         try clear hcz32_2
         try clear hcz32_3
         try clear hcz32_4
         try clear hcz37_0
         try clear hcz37_1
         try clear hcz40_0
         try clear hcz40_1
         try clear hcz42_0
         try clear hcz42_1
         try clear hcz49_0
         try clear hcz49_1
         try clear hcz49_2
         try clear hcz49_3
         try clear hcz49_4
         try clear hcz52_0
         try clear hcz52_1
         try clear hcz52_2
         try clear hcz52_3
         try clear hcz52_4
         try clear hfz10_0
         try clear hfz10_1
         try clear hfz13_0
         try clear hfz13_1
         try clear hfz16_0
         try clear hfz16_1
         try clear hfz17_0
         try clear hfz17_1
         try clear hfz17_2
         try clear hfz17_3
         try clear hfz17_4
         try clear hfz31_0
         try clear hfz31_1
         try clear hfz32_0
         try clear hfz32_1
         try clear hfz32_2
         try clear hfz32_3
         try clear hfz32_4
         try clear hfz37_0
         try clear hfz37_1
         try clear hfz40_0
         try clear hfz40_1
         try clear hfz42_0
         try clear hfz42_1
         try clear hfz49_0
         try clear hfz49_1
         try clear hfz49_2
         try clear hfz49_3
         try clear hfz49_4
         try clear hfz52_0
         try clear hfz52_1
         try clear hfz52_2
         try clear hfz52_3
         try clear hfz52_4
         try clear hx613_0
         try clear p2
         try clear p613
         try clear q613
         obtain ⟨kq, x9_52, HA, HJ52, HO_9, HO_605001, BK594, BK595, BK604, HB⟩ := hcut
         cases kq with
         | zero => exact absurd HA.out (by simp [warrantorlaw14_PostBack.j2])
         | succ kj52 =>
           have H := HA.out
           clear HA
           simp only [warrantorlaw14_PostBack.j2] at H
           have HC61 := Aside0.mk H
           clear H
           go_upto_region 14 with (fail)
           go_cut [90] (fun v90 wc => ∃ (kq : Nat) (x90_60 : Bool), v90 = .bool x90_60 ∧ Aside0 (warrantorlaw14_PostBack.j3 kq l2 x9_52 0 x90_60 a0_0 l0_1 a1_0 a1_1 a1_2 a1_3 a1_4 = some r) ∧ Aside0 (kq ≤ kj52) ∧ Aside0 (Kd.R (Kd.int .i64) 3 wc w.heap.size (fun k_ => some k_ ≠ ((.slice Ao38 t600.length co38) : Value).ownBlock) u9 x9_52) ∧ Aside0 (Kd.R (Kd.int .i64) 3 wc w.heap.size (fun k_ => some k_ ≠ (u9 : Value).ownBlock) (.slice Ao38 t600.length co38) t600) ∧ Aside0 (wc.heap[gb594]? = some (.cells #[.int .i64 a0_0, (.slice A0_1 l0_1.length c0_1)] 24 (0, 0))) ∧ Aside0 (wc.heap[gb595]? = some (.cells #[.int .i64 a1_0, .int .i64 a1_1, .int .i64 a1_2, .int .i64 a1_3, .int .i64 a1_4] 26 (0, 0))) ∧ Aside0 (wc.heap[gb604]? = some (.cells #[.int .i64 t599, (.slice Ao38 t600.length co38)] 24 (0, 0))) ∧ Aside0 (Below w.heap.size w wc))
           case first =>
            have H := HC61.out
            clear HC61
            by_cases c62 : a1_0 = 3
            · rw [if_pos c62] at H
              have c62b0 : (a1_0 == 3) = true := beq_iff_eq.mpr c62
              have c62b1 : (a1_0 != 3) = false := bne_eq_false_iff_eq.mpr c62
              clear c62
              (first | rw [c62b0] | (simp only [i64_w, i32_w]; rw [c62b0]) | skip)
              have H' := Aside0.mk H
              clear H
              have hnb63 := NB595_594.out
              have hnc63 := NB594_595.out
              have hnb64 := NB595_604.out
              have hnc64 := NB604_595.out
              obtain ⟨hcz65_0, hcz65_1, hcz65_2, hcz65_3, hcz65_4, hfz65_0, hfz65_1, hfz65_2, hfz65_3, hfz65_4⟩ := cz5_ BK595
              go_wp2
              go_meet
              case rel => exact ⟨_, (true), (by first | rfl | (simp; done) | (simp [*]; done)), H', ⟨by have := HJ3.out; have := HJ28.out; have := HJ52.out; first | omega | exact Nat.le_refl _⟩, ⟨by (with_reducible repeat (first | apply Kd.R_alloc | apply Kd.R_drewN | apply Kd.R_drew)); exact HO_9.out⟩, ⟨by (with_reducible repeat (first | apply Kd.R_alloc | apply Kd.R_drewN | apply Kd.R_drew)); exact HO_605001.out⟩, ⟨by (with_reducible repeat (first | refine blk_drewN ?_ _ | refine blk_drew ?_ | refine blk_alloc ?_ _)); exact BK594.out⟩, ⟨by (with_reducible repeat (first | refine blk_drewN ?_ _ | refine blk_drew ?_ | refine blk_alloc ?_ _)); exact BK595.out⟩, ⟨by (with_reducible repeat (first | refine blk_drewN ?_ _ | refine blk_drew ?_ | refine blk_alloc ?_ _)); exact BK604.out⟩, ⟨HB_⟩⟩
            rw [if_neg c62] at H
            have c62b0 : (a1_0 == 3) = false := beq_eq_false_iff_ne.mpr c62
            have c62b1 : (a1_0 != 3) = true := bne_iff_ne.mpr c62
            (first | rw [c62b0] | (simp only [i64_w, i32_w]; rw [c62b0]) | skip)
            by_cases c66 : a1_0 = 2
            rotate_left
            · rw [if_neg c66] at H
              have c66b0 : (a1_0 == 2) = false := beq_eq_false_iff_ne.mpr c66
              have c66b1 : (a1_0 != 2) = true := bne_iff_ne.mpr c66
              have H' := Aside0.mk H
              clear H
              have hnb70 := NB595_594.out
              have hnc70 := NB594_595.out
              have hnb71 := NB595_604.out
              have hnc71 := NB604_595.out
              obtain ⟨hcz72_0, hcz72_1, hcz72_2, hcz72_3, hcz72_4, hfz72_0, hfz72_1, hfz72_2, hfz72_3, hfz72_4⟩ := cz5_ BK595
              go_wp2
              go_meet
              case rel => exact ⟨_, (false), (by first | rfl | (simp; done) | (simp [*]; done)), H', ⟨by have := HJ3.out; have := HJ28.out; have := HJ52.out; first | omega | exact Nat.le_refl _⟩, ⟨by (with_reducible repeat (first | apply Kd.R_alloc | apply Kd.R_drewN | apply Kd.R_drew)); exact HO_9.out⟩, ⟨by (with_reducible repeat (first | apply Kd.R_alloc | apply Kd.R_drewN | apply Kd.R_drew)); exact HO_605001.out⟩, ⟨by (with_reducible repeat (first | refine blk_drewN ?_ _ | refine blk_drew ?_ | refine blk_alloc ?_ _)); exact BK594.out⟩, ⟨by (with_reducible repeat (first | refine blk_drewN ?_ _ | refine blk_drew ?_ | refine blk_alloc ?_ _)); exact BK595.out⟩, ⟨by (with_reducible repeat (first | refine blk_drewN ?_ _ | refine blk_drew ?_ | refine blk_alloc ?_ _)); exact BK604.out⟩, ⟨HB_⟩⟩
            rw [if_pos c66] at H
            have c66b0 : (a1_0 == 2) = true := beq_iff_eq.mpr c66
            have c66b1 : (a1_0 != 2) = false := bne_eq_false_iff_eq.mpr c66
            clear c66
            have H' := Aside0.mk H
            clear H
            have hnb67 := NB595_594.out
            have hnc67 := NB594_595.out
            have hnb68 := NB595_604.out
            have hnc68 := NB604_595.out
            obtain ⟨hcz69_0, hcz69_1, hcz69_2, hcz69_3, hcz69_4, hfz69_0, hfz69_1, hfz69_2, hfz69_3, hfz69_4⟩ := cz5_ BK595
            go_wp2
            go_meet
            case rel => exact ⟨_, ((a1_1 != a1_2)), (by first | rfl | (simp; done) | (simp [*]; done)), H', ⟨by have := HJ3.out; have := HJ28.out; have := HJ52.out; first | omega | exact Nat.le_refl _⟩, ⟨by (with_reducible repeat (first | apply Kd.R_alloc | apply Kd.R_drewN | apply Kd.R_drew)); exact HO_9.out⟩, ⟨by (with_reducible repeat (first | apply Kd.R_alloc | apply Kd.R_drewN | apply Kd.R_drew)); exact HO_605001.out⟩, ⟨by (with_reducible repeat (first | refine blk_drewN ?_ _ | refine blk_drew ?_ | refine blk_alloc ?_ _)); exact BK594.out⟩, ⟨by (with_reducible repeat (first | refine blk_drewN ?_ _ | refine blk_drew ?_ | refine blk_alloc ?_ _)); exact BK595.out⟩, ⟨by (with_reducible repeat (first | refine blk_drewN ?_ _ | refine blk_drew ?_ | refine blk_alloc ?_ _)); exact BK604.out⟩, ⟨HB_⟩⟩
           case rest =>
            clear HC61
            try clear c1
            try clear c2
            try clear p2
            try clear c3
            try clear c4
            try clear c5
            try clear c6
            try clear p6
            try clear q6
            try clear hx6
            try clear c7
            try clear c8
            try clear c9
            try clear c10
            try clear c11
            try clear c11b0
            try clear c11b1
            try clear c12
            try clear c13
            try clear c15
            try clear c19
            try clear c24
            try clear c26
            try clear c27
            try clear c27b0
            try clear c27b1
            try clear c28
            try clear c30
            try clear c35
            try clear c36
            try clear c45
            try clear c46
            try clear c46b0
            try clear c46b1
            try clear c47
            try clear c48
            try clear c50
            try clear c51
            try clear c54
            try clear c55
            try clear c56
            try clear c56b0
            try clear c57
            try clear c57b0
            try clear p61
            try clear q61
            try clear hx61
            try clear c62
            try clear c62b0
            try clear c62b1
            try clear c63
            try clear c64
            try clear p64
            try clear c66
            try clear c66b0
            try clear c66b1
            try clear c67
            try clear c68
            try clear c70
            try clear c71
            try clear hcz10_0
            try clear hcz10_1
            try clear hcz13_0
            try clear hcz13_1
            try clear hcz16_0
            try clear hcz16_1
            try clear hcz17_0
            try clear hcz17_1
            try clear hcz17_2
            try clear hcz17_3
            try clear hcz17_4
            try clear hcz31_0
            try clear hcz31_1
            try clear hcz32_0
            try clear hcz32_1
            try clear hcz32_2
            try clear hcz32_3
            try clear hcz32_4
            try clear hcz37_0
            try clear hcz37_1
            try clear hcz40_0
            try clear hcz40_1
            try clear hcz42_0
            try clear hcz42_1
            try clear hcz49_0
            try clear hcz49_1
            try clear hcz49_2
            try clear hcz49_3
            try clear hcz49_4
            try clear hcz52_0
            try clear hcz52_1
            try clear hcz52_2
            try clear hcz52_3
            try clear hcz52_4
            try clear hcz65_0
            try clear hcz65_1
            try clear hcz65_2
            try clear hcz65_3
            try clear hcz65_4
            try clear hcz69_0
            try clear hcz69_1
            try clear hcz69_2
            try clear hcz69_3
            try clear hcz69_4
            try clear hcz72_0
            try clear hcz72_1
            try clear hcz72_2
            try clear hcz72_3
            try clear hcz72_4
            try clear hfz10_0
            try clear hfz10_1
            try clear hfz13_0
            try clear hfz13_1
            try clear hfz16_0
            try clear hfz16_1
            try clear hfz17_0
            try clear hfz17_1
            try clear hfz17_2
            try clear hfz17_3
            try clear hfz17_4
            try clear hfz31_0
            try clear hfz31_1
            try clear hfz32_0
            try clear hfz32_1
            try clear hfz32_2
            try clear hfz32_3
            try clear hfz32_4
            try clear hfz37_0
            try clear hfz37_1
            try clear hfz40_0
            try clear hfz40_1
            try clear hfz42_0
            try clear hfz42_1
            try clear hfz49_0
            try clear hfz49_1
            try clear hfz49_2
            try clear hfz49_3
            try clear hfz49_4
            try clear hfz52_0
            try clear hfz52_1
            try clear hfz52_2
            try clear hfz52_3
            try clear hfz52_4
            try clear hfz65_0
            try clear hfz65_1
            try clear hfz65_2
            try clear hfz65_3
            try clear hfz65_4
            try clear hfz69_0
            try clear hfz69_1
            try clear hfz69_2
            try clear hfz69_3
            try clear hfz69_4
            try clear hfz72_0
            try clear hfz72_1
            try clear hfz72_2
            try clear hfz72_3
            try clear hfz72_4
            try clear hx613_0
            try clear p2
            try clear p6
            try clear p613
            try clear q6
            try clear q613
            obtain ⟨kq, x90_60, rfl, HA, HJ60, HO_9, HO_605001, BK594, BK595, BK604, HB⟩ := hcut
            cases kq with
            | zero => exact absurd HA.out (by simp [warrantorlaw14_PostBack.j3])
            | succ kj60 =>
              have H := HA.out
              clear HA
              simp only [warrantorlaw14_PostBack.j3] at H
              by_cases c73 : x90_60 = true
              rotate_left
              · replace c73 := Bool.eq_false_iff.mpr c73
                subst c73
                replace H := ng1_ H
                replace H := bd_ H
                obtain ⟨⟨t630, t633⟩, A125, H⟩ := H
                (try dsimp only at H)
                replace H := bd_ H
                obtain ⟨t634, A126, H⟩ := H
                (try dsimp only at H)
                replace H := yes_ H
                obtain ⟨c127, H⟩ := H
                subst c127
                replace H := yes_ H
                obtain ⟨c128, H⟩ := H
                have c128b0 : (t633 == 0) = true := beq_iff_eq.mpr c128
                have c128b1 : (t633 != 0) = false := bne_eq_false_iff_eq.mpr c128
                clear c128
                replace H := bd_ H
                obtain ⟨t635, A129, H⟩ := H
                (try dsimp only at H)
                obtain rfl := Option.some.inj H
                have hnb130 := NB595_594.out
                have hnc130 := NB594_595.out
                have hnb131 := NB595_604.out
                have hnc131 := NB604_595.out
                obtain ⟨hcz132_0, hcz132_1, hcz132_2, hcz132_3, hcz132_4, hfz132_0, hfz132_1, hfz132_2, hfz132_3, hfz132_4⟩ := cz5_ BK595
                obtain ⟨Ao133, co133, eo133⟩ := Kd.R_slice HO_9.out
                subst eo133
                go_wp2_with (first | ((with_reducible refine gate_callee (f := 48) rfl ?_); refine goesL_ (some 135) rfl rfl Try.func48 (by kernel_rfl) rfl #[.agg #[.int .i64 a1_0, .int .i64 a1_1, .int .i64 a1_2, .int .i64 a1_3, .int .i64 a1_4], .slice Ao133 x9_52.length co133, .int .i64 0] rfl MP_ ?_; (with_reducible refine (warrantorref13_Does.calls a1_0 a1_1 a1_2 a1_3 a1_4 _ _ x9_52 0 t630 t633 _ ?side1 ?side2 A125.out).mono ?_); (case side1 => repeat (first | exact (Kd.R_reads' HO_9.out).2.2 | (with_reducible refine Kd.C_alloc ?_ _) | (with_reducible refine Kd.C_drewN ?_ _) | (with_reducible refine Kd.C_drew ?_))); (case side2 => exact (Kd.R_reads' HO_9.out).2.1); rintro e w134 ⟨v631, rfl, ho0, hb⟩; refine ⟨_, rfl, ?_⟩; have n_ := a_ (Aside0.mk (Kd.R_elder' (rd_ HO_9.out) (Kd.R_base ho0) hb)) (a_ (Aside0.mk (Kd.R_elder' (rd_ HO_605001.out) (Kd.R_base ho0) hb)) (a_ (Aside0.mk (Kd.R_lower (Kd.R_new' (Kd.R_new' ho0 (Kd.R_lt (rd_ HO_9.out))) (Kd.R_lt (rd_ HO_605001.out))) (below_size HB_))) (a_ (bb_ BK594 hb) (a_ (bb_ BK595 hb) (a_ (bb_ BK604 hb) (bs_ HB hb)))))); clear HO_9 HO_605001 BK594 BK595 BK604 HB; obtain ⟨HO_9, HO_605001, HO632, BK594, BK595, BK604, HB⟩ := n_; (try clear hb); (try clear hb2); (try clear hk); (try clear hi); (try clear ho0); have hnb135 := NB594_604.out; have hnc135 := NB604_594.out; obtain ⟨hcz136_0, hcz136_1, hfz136_0, hfz136_1⟩ := cz2_ BK594) | ((with_reducible refine gate_callee (f := 45) rfl ?_); refine goesL_ (some 140) rfl rfl Try.func45 (by kernel_rfl) rfl #[.agg #[.int .i64 a0_0, .slice A0_1 l0_1.length c0_1], .slice Ao133 x9_52.length co133] rfl MP_ ?_; (with_reducible refine (dbm_Has.calls kj60 a0_0 _ _ l0_1 _ _ x9_52 true _ ?side1 ?side2 ?side3 ?side4 A126.out).mono ?_); (case side1 => exact sd_ (Kd.C_below HR0_1.out HB.out)); (case side2 => exact HC0_1.out); (case side3 => repeat (first | exact (Kd.R_reads' HO_9.out).2.2 | (with_reducible refine Kd.C_alloc ?_ _) | (with_reducible refine Kd.C_drewN ?_ _) | (with_reducible refine Kd.C_drew ?_))); (case side4 => exact (Kd.R_reads' HO_9.out).2.1); rintro e w137 ⟨rfl, hb⟩; refine ⟨_, rfl, ?_⟩; have n_ := a_ (rb_ HO_9 hb) (a_ (rb_ HO_605001 hb) (a_ (rb_ HO632 hb) (a_ (bb_ BK594 hb) (a_ (bb_ BK595 hb) (a_ (bb_ BK604 hb) (bs_ HB hb)))))); clear HO_9 HO_605001 HO632 BK594 BK595 BK604 HB; obtain ⟨HO_9, HO_605001, HO632, BK594, BK595, BK604, HB⟩ := n_; (try clear hb); (try clear hb2); (try clear hk); (try clear hi); obtain ⟨Ao138, co138, eo138⟩ := Kd.R_slice HO632.out; subst eo138) | (go_at_call 57; (with_reducible refine (warrantorref13_Same.calls kj60 0 _ _ t630 0 _ _ l2 t635 _ ?side1 ?side2 ?side3 ?side4 A129.out).mono ?_); (case side1 => repeat (first | exact (Kd.R_reads' HO632.out).2.2 | (with_reducible refine Kd.C_alloc ?_ _) | (with_reducible refine Kd.C_drewN ?_ _) | (with_reducible refine Kd.C_drew ?_))); (case side2 => exact (Kd.R_reads' HO632.out).2.1); (case side3 => exact sd_ (Kd.C_below HR2.out HB.out)); (case side4 => exact HC2.out); rintro e w139 ⟨rfl, hb⟩; have n_ := a_ (rb_ HO_9 hb) (a_ (rb_ HO_605001 hb) (a_ (rb_ HO632 hb) (a_ (bb_ BK594 hb) (a_ (bb_ BK595 hb) (a_ (bb_ BK604 hb) (bs_ HB hb)))))); clear HO_9 HO_605001 HO632 BK594 BK595 BK604 HB; obtain ⟨HO_9, HO_605001, HO632, BK594, BK595, BK604, HB⟩ := n_; (try clear hb); (try clear hb2); (try clear hk); (try clear hi)))
                go_ret
                exact ⟨by first | rfl | (simp [errW_none, errW_some] <;> rfl) | (simp [*, errW_none, errW_some] <;> rfl), HB_⟩
              subst c73
              replace H := ps1_ H
              obtain ⟨ji74, hji74⟩ : ∃ j_ : Int, (wrap64 (a1_1 - 1)) = j_ := ⟨_, rfl⟩
              replace H : (if 0 ≤ (ji74) then (if (ji74) < (l2.length : Int) then (warrantorlaw14_PostBack.l0 kj60 l2 (rd l2 (ji74)) (-1099511627776) 0 a0_0 l0_1 a1_0 a1_1 a1_2 a1_3 a1_4) else (none)) else (none)) = some r := by first | (rw [hji74] at H; exact H) | (simp only [hji74] at H ⊢; exact H)
              have hji74w : (IntKind.i64.wrap (a1_1 - 1)) = ji74 := (i64_w _).trans hji74
              replace H := yes_ H
              obtain ⟨c75, H⟩ := H
              have c75b0 : decide (0 ≤ (ji74)) = true := decide_eq_true c75
              clear c75
              replace H := yes_ H
              obtain ⟨c76, H⟩ := H
              have c76b0 : decide ((ji74) < (l2.length : Int)) = true := decide_eq_true c76
              clear c76
              have H' := Aside0.mk H
              clear H
              have hnb77 := NB595_594.out
              have hnc77 := NB594_595.out
              have hnb78 := NB595_604.out
              have hnc78 := NB604_595.out
              obtain ⟨hcz79_0, hcz79_1, hcz79_2, hcz79_3, hcz79_4, hfz79_0, hfz79_1, hfz79_2, hfz79_3, hfz79_4⟩ := cz5_ BK595
              have p617 : 0 ≤ ((ji74) : Int) := of_decide_eq_true (by first | (with_reducible assumption) | assumption)
              have q617 : (ji74) < (l2.length : Int) := of_decide_eq_true (by first | (with_reducible assumption) | assumption)
              obtain ⟨ad617, e617, hx617_0⟩ := Kd.at_int HR2.out (ji74) p617 q617
              cases e617
              first | (replace hx617_0 := (HB.out.cell (World.block_lt_of_cell? w _ hx617_0)).trans hx617_0) | skip
              replace p617 := eq_true p617
              replace q617 := eq_true q617
              go_wp2
              go_loopg [11, 12] kj60 (fun kq v11 v12 w' => ∃ (x11_5 : Int) (x12_5 : Int), v11 = .int .i64 x11_5 ∧ v12 = .int .i64 x12_5 ∧ Aside0 (warrantorlaw14_PostBack.l0 kq l2 (rd l2 (ji74)) x11_5 x12_5 a0_0 l0_1 a1_0 a1_1 a1_2 a1_3 a1_4 = some r) ∧ Aside0 (kq ≤ kj60) ∧ Aside0 (Kd.R (Kd.int .i64) 3 w' w.heap.size (fun _ => True) (.slice Ao38 t600.length co38) t600) ∧ Aside0 (w'.heap[gb594]? = some (.cells #[.int .i64 a0_0, (.slice A0_1 l0_1.length c0_1)] 24 (0, 0))) ∧ Aside0 (w'.heap[gb595]? = some (.cells #[.int .i64 a1_0, .int .i64 a1_1, .int .i64 a1_2, .int .i64 a1_3, .int .i64 a1_4] 26 (0, 0))) ∧ Aside0 (w'.heap[gb604]? = some (.cells #[.int .i64 t599, (.slice Ao38 t600.length co38)] 24 (0, 0))) ∧ Aside0 (Below w.heap.size w w'))
              case atStart => exact ⟨((-1099511627776)), (0), (by first | rfl | (simp; done) | (simp [*]; done)), (by first | rfl | (simp; done) | (simp [*]; done)), H', ⟨Nat.le_refl _⟩, ⟨by (with_reducible repeat (first | apply Kd.R_alloc | apply Kd.R_drewN | apply Kd.R_drew)); exact Kd.R_mono HO_605001.out (fun _ hk => trivial)⟩, ⟨by (with_reducible repeat (first | refine blk_drewN ?_ _ | refine blk_drew ?_ | refine blk_alloc ?_ _)); exact BK594.out⟩, ⟨by (with_reducible repeat (first | refine blk_drewN ?_ _ | refine blk_drew ?_ | refine blk_alloc ?_ _)); exact BK595.out⟩, ⟨by (with_reducible repeat (first | refine blk_drewN ?_ _ | refine blk_drew ?_ | refine blk_alloc ?_ _)); exact BK604.out⟩, ⟨HB_⟩⟩
              case round =>
                clear H'
                try clear c1
                try clear c2
                try clear p2
                try clear c3
                try clear c4
                try clear c5
                try clear c6
                try clear p6
                try clear q6
                try clear hx6
                try clear c7
                try clear c8
                try clear c9
                try clear c10
                try clear c11
                try clear c11b0
                try clear c11b1
                try clear c12
                try clear c13
                try clear c15
                try clear c19
                try clear c24
                try clear c26
                try clear c27
                try clear c27b0
                try clear c27b1
                try clear c28
                try clear c30
                try clear c35
                try clear c36
                try clear c45
                try clear c46
                try clear c46b0
                try clear c46b1
                try clear c47
                try clear c48
                try clear c50
                try clear c51
                try clear c54
                try clear c55
                try clear c56
                try clear c56b0
                try clear c57
                try clear c57b0
                try clear p61
                try clear q61
                try clear hx61
                try clear c62
                try clear c62b0
                try clear c62b1
                try clear c63
                try clear c64
                try clear p64
                try clear c66
                try clear c66b0
                try clear c66b1
                try clear c67
                try clear c68
                try clear c70
                try clear c71
                try clear c73
                try clear c75
                try clear c75b0
                try clear c76
                try clear c76b0
                try clear c77
                try clear c78
                try clear hcz10_0
                try clear hcz10_1
                try clear hcz13_0
                try clear hcz13_1
                try clear hcz16_0
                try clear hcz16_1
                try clear hcz17_0
                try clear hcz17_1
                try clear hcz17_2
                try clear hcz17_3
                try clear hcz17_4
                try clear hcz31_0
                try clear hcz31_1
                try clear hcz32_0
                try clear hcz32_1
                try clear hcz32_2
                try clear hcz32_3
                try clear hcz32_4
                try clear hcz37_0
                try clear hcz37_1
                try clear hcz40_0
                try clear hcz40_1
                try clear hcz42_0
                try clear hcz42_1
                try clear hcz49_0
                try clear hcz49_1
                try clear hcz49_2
                try clear hcz49_3
                try clear hcz49_4
                try clear hcz52_0
                try clear hcz52_1
                try clear hcz52_2
                try clear hcz52_3
                try clear hcz52_4
                try clear hcz65_0
                try clear hcz65_1
                try clear hcz65_2
                try clear hcz65_3
                try clear hcz65_4
                try clear hcz69_0
                try clear hcz69_1
                try clear hcz69_2
                try clear hcz69_3
                try clear hcz69_4
                try clear hcz72_0
                try clear hcz72_1
                try clear hcz72_2
                try clear hcz72_3
                try clear hcz72_4
                try clear hcz79_0
                try clear hcz79_1
                try clear hcz79_2
                try clear hcz79_3
                try clear hcz79_4
                try clear hfz10_0
                try clear hfz10_1
                try clear hfz13_0
                try clear hfz13_1
                try clear hfz16_0
                try clear hfz16_1
                try clear hfz17_0
                try clear hfz17_1
                try clear hfz17_2
                try clear hfz17_3
                try clear hfz17_4
                try clear hfz31_0
                try clear hfz31_1
                try clear hfz32_0
                try clear hfz32_1
                try clear hfz32_2
                try clear hfz32_3
                try clear hfz32_4
                try clear hfz37_0
                try clear hfz37_1
                try clear hfz40_0
                try clear hfz40_1
                try clear hfz42_0
                try clear hfz42_1
                try clear hfz49_0
                try clear hfz49_1
                try clear hfz49_2
                try clear hfz49_3
                try clear hfz49_4
                try clear hfz52_0
                try clear hfz52_1
                try clear hfz52_2
                try clear hfz52_3
                try clear hfz52_4
                try clear hfz65_0
                try clear hfz65_1
                try clear hfz65_2
                try clear hfz65_3
                try clear hfz65_4
                try clear hfz69_0
                try clear hfz69_1
                try clear hfz69_2
                try clear hfz69_3
                try clear hfz69_4
                try clear hfz72_0
                try clear hfz72_1
                try clear hfz72_2
                try clear hfz72_3
                try clear hfz72_4
                try clear hfz79_0
                try clear hfz79_1
                try clear hfz79_2
                try clear hfz79_3
                try clear hfz79_4
                try clear hx613_0
                try clear hx617_0
                try clear p2
                try clear p6
                try clear p61
                try clear p613
                try clear p617
                try clear p64
                try clear q6
                try clear q61
                try clear q613
                try clear q617
                obtain ⟨x11_5, x12_5, rfl, rfl, HA, HK5, HO_605001, BK594, BK595, BK604, HB⟩ := hrel
                cases gk with
                | zero => exact absurd HA.out (by simp [warrantorlaw14_PostBack.l0])
                | succ k5 =>
                 have H := HA.out
                 clear HA
                 simp only [warrantorlaw14_PostBack.l0] at H
                 by_cases c80 : x12_5 ≤ a0_0
                 rotate_left
                 · rw [if_neg c80] at H
                   have c80b0 : decide (x12_5 ≤ a0_0) = false := decide_eq_false c80
                   clear c80
                   replace H := bd_ H
                   obtain ⟨t621, A106, H⟩ := H
                   (try dsimp only at H)
                   replace H := bd_ H
                   obtain ⟨⟨t624, t627⟩, A107, H⟩ := H
                   (try dsimp only at H)
                   replace H := bd_ H
                   obtain ⟨t628, A108, H⟩ := H
                   (try dsimp only at H)
                   replace H := yes_ H
                   obtain ⟨c109, H⟩ := H
                   subst c109
                   replace H := yes_ H
                   obtain ⟨c110, H⟩ := H
                   have c110b0 : (t627 == 0) = true := beq_iff_eq.mpr c110
                   have c110b1 : (t627 != 0) = false := bne_eq_false_iff_eq.mpr c110
                   clear c110
                   replace H := bd_ H
                   obtain ⟨t629, A111, H⟩ := H
                   (try dsimp only at H)
                   obtain rfl := Option.some.inj H
                   have hnb112 := NB594_595.out
                   have hnc112 := NB595_594.out
                   have hnb113 := NB594_604.out
                   have hnc113 := NB604_594.out
                   obtain ⟨hcz114_0, hcz114_1, hfz114_0, hfz114_1⟩ := cz2_ BK594
                   have hnb115 := NB595_604.out
                   have hnc115 := NB604_595.out
                   obtain ⟨hcz116_0, hcz116_1, hcz116_2, hcz116_3, hcz116_4, hfz116_0, hfz116_1, hfz116_2, hfz116_3, hfz116_4⟩ := cz5_ BK595
                   go_wp2_with (first | ((with_reducible refine gate_callee (f := 55) rfl ?_); refine goesL_ (some 130) rfl rfl Try.func55 (by kernel_rfl) rfl #[.slice (some ad617) l2.length c2, .int .i64 a1_1, .int .i64 x11_5] rfl MP_ ?_; (with_reducible refine (warrantorref13_With.calls _ _ l2 a1_1 x11_5 t621 _ ?side1 ?side2 A106.out).mono ?_); (case side1 => exact sd_ (Kd.C_below HR2.out HB.out)); (case side2 => exact HC2.out); rintro e w117 ⟨v622, rfl, ho0, hb⟩; refine ⟨_, rfl, ?_⟩; have n_ := a_ (Aside0.mk (Kd.R_elder' (rd_ HO_605001.out) (Kd.R_base ho0) hb)) (a_ (Aside0.mk (Kd.R_lower (Kd.R_new' ho0 (Kd.R_lt (rd_ HO_605001.out))) (below_size HB_))) (a_ (bb_ BK594 hb) (a_ (bb_ BK595 hb) (a_ (bb_ BK604 hb) (bs_ HB hb))))); clear HO_605001 BK594 BK595 BK604 HB; obtain ⟨HO_605001, HO623, BK594, BK595, BK604, HB⟩ := n_; (try clear hb); (try clear hb2); (try clear hk); (try clear hi); (try clear ho0); obtain ⟨hcz118_0, hcz118_1, hcz118_2, hcz118_3, hcz118_4, hfz118_0, hfz118_1, hfz118_2, hfz118_3, hfz118_4⟩ := cz5_ BK595; obtain ⟨Ao119, co119, eo119⟩ := Kd.R_slice HO623.out; subst eo119) | ((with_reducible refine gate_callee (f := 48) rfl ?_); refine goesL_ (some 135) rfl rfl Try.func48 (by kernel_rfl) rfl #[.agg #[.int .i64 a1_0, .int .i64 a1_1, .int .i64 a1_2, .int .i64 a1_3, .int .i64 a1_4], .slice Ao119 t621.length co119, .int .i64 (rd l2 (ji74))] rfl (by (try simp only [List.map_toArray, List.map_cons, List.map_nil]); first | done | (simp only [hji74]; rfl) | rfl | (simp only [List.length_drop, List.length_take]; rfl)) ?_; (with_reducible refine (warrantorref13_Does.calls a1_0 a1_1 a1_2 a1_3 a1_4 _ _ t621 (rd l2 (ji74)) t624 t627 _ ?side1 ?side2 A107.out).mono ?_); (case side1 => repeat (first | exact (Kd.R_reads' HO623.out).2.2 | (with_reducible refine Kd.C_alloc ?_ _) | (with_reducible refine Kd.C_drewN ?_ _) | (with_reducible refine Kd.C_drew ?_))); (case side2 => exact (Kd.R_reads' HO623.out).2.1); rintro e w120 ⟨v625, rfl, ho0, hb⟩; refine ⟨_, rfl, ?_⟩; have n_ := a_ (Aside0.mk (Kd.R_elder' (rd_ HO_605001.out) (Kd.R_base ho0) hb)) (a_ (Aside0.mk (Kd.R_elder' (rd_ HO623.out) (Kd.R_base ho0) hb)) (a_ (Aside0.mk (Kd.R_lower (Kd.R_new' (Kd.R_new' ho0 (Kd.R_lt (rd_ HO_605001.out))) (Kd.R_lt (rd_ HO623.out))) (below_size HB_))) (a_ (bb_ BK594 hb) (a_ (bb_ BK595 hb) (a_ (bb_ BK604 hb) (bs_ HB hb)))))); clear HO_605001 HO623 BK594 BK595 BK604 HB; obtain ⟨HO_605001, HO623, HO626, BK594, BK595, BK604, HB⟩ := n_; (try clear hb); (try clear hb2); (try clear hk); (try clear hi); (try clear ho0); obtain ⟨hcz121_0, hcz121_1, hfz121_0, hfz121_1⟩ := cz2_ BK594) | ((with_reducible refine gate_callee (f := 45) rfl ?_); refine goesL_ (some 140) rfl rfl Try.func45 (by kernel_rfl) rfl #[.agg #[.int .i64 a0_0, .slice A0_1 l0_1.length c0_1], .slice Ao119 t621.length co119] rfl MP_ ?_; (with_reducible refine (dbm_Has.calls k5 a0_0 _ _ l0_1 _ _ t621 true _ ?side1 ?side2 ?side3 ?side4 A108.out).mono ?_); (case side1 => exact sd_ (Kd.C_below HR0_1.out HB.out)); (case side2 => exact HC0_1.out); (case side3 => repeat (first | exact (Kd.R_reads' HO623.out).2.2 | (with_reducible refine Kd.C_alloc ?_ _) | (with_reducible refine Kd.C_drewN ?_ _) | (with_reducible refine Kd.C_drew ?_))); (case side4 => exact (Kd.R_reads' HO623.out).2.1); rintro e w122 ⟨rfl, hb⟩; refine ⟨_, rfl, ?_⟩; have n_ := a_ (rb_ HO_605001 hb) (a_ (rb_ HO623 hb) (a_ (rb_ HO626 hb) (a_ (bb_ BK594 hb) (a_ (bb_ BK595 hb) (a_ (bb_ BK604 hb) (bs_ HB hb)))))); clear HO_605001 HO623 HO626 BK594 BK595 BK604 HB; obtain ⟨HO_605001, HO623, HO626, BK594, BK595, BK604, HB⟩ := n_; (try clear hb); (try clear hb2); (try clear hk); (try clear hi); obtain ⟨Ao123, co123, eo123⟩ := Kd.R_slice HO626.out; subst eo123) | (go_at_call 57; (with_reducible refine (warrantorref13_Same.calls k5 0 _ _ t624 0 _ _ l2 t629 _ ?side1 ?side2 ?side3 ?side4 A111.out).mono ?_); (case side1 => repeat (first | exact (Kd.R_reads' HO626.out).2.2 | (with_reducible refine Kd.C_alloc ?_ _) | (with_reducible refine Kd.C_drewN ?_ _) | (with_reducible refine Kd.C_drew ?_))); (case side2 => exact (Kd.R_reads' HO626.out).2.1); (case side3 => exact sd_ (Kd.C_below HR2.out HB.out)); (case side4 => exact HC2.out); rintro e w124 ⟨rfl, hb⟩; have n_ := a_ (rb_ HO_605001 hb) (a_ (rb_ HO623 hb) (a_ (rb_ HO626 hb) (a_ (bb_ BK594 hb) (a_ (bb_ BK595 hb) (a_ (bb_ BK604 hb) (bs_ HB hb)))))); clear HO_605001 HO623 HO626 BK594 BK595 BK604 HB; obtain ⟨HO_605001, HO623, HO626, BK594, BK595, BK604, HB⟩ := n_; (try clear hb); (try clear hb2); (try clear hk); (try clear hi)))
                   go_ret
                   exact ⟨by first | rfl | (simp [errW_none, errW_some] <;> rfl) | (simp only [← hji74]; first | rfl | (simp [errW_none, errW_some] <;> rfl)) | (simp [*, errW_none, errW_some] <;> rfl), HB_⟩
                 rw [if_pos c80] at H
                 have c80b0 : decide (x12_5 ≤ a0_0) = true := decide_eq_true c80
                 clear c80
                 replace H := bd_ H
                 obtain ⟨⟨t618, t619⟩, A81, H⟩ := H
                 (try dsimp only at H)
                 replace H := bd_ H
                 obtain ⟨t620, A82, H⟩ := H
                 (try dsimp only at H)
                 by_cases c83 : x12_5 = a1_1
                 · rw [if_pos c83] at H
                   have c83b0 : (x12_5 == a1_1) = true := beq_iff_eq.mpr c83
                   have c83b1 : (x12_5 != a1_1) = false := bne_eq_false_iff_eq.mpr c83
                   clear c83
                   have H' := Aside0.mk H
                   clear H
                   have hnb84 := NB594_595.out
                   have hnc84 := NB595_594.out
                   have hnb85 := NB594_604.out
                   have hnc85 := NB604_594.out
                   obtain ⟨hcz86_0, hcz86_1, hfz86_0, hfz86_1⟩ := cz2_ BK594
                   have hnb87 := NB595_604.out
                   have hnc87 := NB604_595.out
                   obtain ⟨hcz88_0, hcz88_1, hcz88_2, hcz88_3, hcz88_4, hfz88_0, hfz88_1, hfz88_2, hfz88_3, hfz88_4⟩ := cz5_ BK595
                   go_wp2_with (first | ((with_reducible refine gate_callee (f := 47) rfl ?_); refine goesL_ (some 108) rfl rfl Try.func47 (by kernel_rfl) rfl #[.agg #[.int .i64 a0_0, .slice A0_1 l0_1.length c0_1], .int .i64 x12_5, .int .i64 a1_1] rfl MP_ ?_; (with_reducible refine (dbm_Bound.calls k5 a0_0 _ _ l0_1 x12_5 a1_1 t618 t619 _ ?side1 ?side2 A81.out).mono ?_); (case side1 => exact sd_ (Kd.C_below HR0_1.out HB.out)); (case side2 => exact HC0_1.out); rintro e w89 ⟨rfl, hb⟩; refine ⟨_, rfl, ?_⟩; have n_ := a_ (rb_ HO_605001 hb) (a_ (bb_ BK594 hb) (a_ (bb_ BK595 hb) (a_ (bb_ BK604 hb) (bs_ HB hb)))); clear HO_605001 BK594 BK595 BK604 HB; obtain ⟨HO_605001, BK594, BK595, BK604, HB⟩ := n_; (try clear hb); (try clear hb2); (try clear hk); (try clear hi)) | ((with_reducible refine gate_callee (f := 56) rfl ?_); refine goesL_ (some 113) rfl rfl Try.func56 (by kernel_rfl) rfl #[.slice (some ad617) l2.length c2, .int .i64 x12_5] rfl MP_ ?_; (with_reducible refine (warrantorref13_Value.calls _ _ l2 x12_5 t620 _ ?side1 ?side2 A82.out).mono ?_); (case side1 => exact sd_ (Kd.C_below HR2.out HB.out)); (case side2 => exact HC2.out); rintro e w' ⟨rfl, ⟨nd, rfl⟩⟩; refine ⟨_, rfl, ?_⟩; obtain ⟨hcz90_0, hcz90_1, hcz90_2, hcz90_3, hcz90_4, hfz90_0, hfz90_1, hfz90_2, hfz90_3, hfz90_4⟩ := cz5_ BK595))
                   go_roundg k5
                   case measure => have := HJ3.out; have := HJ28.out; have := HJ52.out; have := HJ60.out; have := HK5.out; omega
                   case rel => exact ⟨(x11_5), (wrap64 (x12_5 + 1)), (by first | rfl | (simp; done) | (simp [*]; done)), (by first | rfl | (simp; done) | (simp [*]; done)), H', ⟨by have := HJ3.out; have := HJ28.out; have := HJ52.out; have := HJ60.out; have := HK5.out; omega⟩, ⟨by (with_reducible repeat (first | apply Kd.R_alloc | apply Kd.R_drewN | apply Kd.R_drew)); exact HO_605001.out⟩, ⟨by (with_reducible repeat (first | refine blk_drewN ?_ _ | refine blk_drew ?_ | refine blk_alloc ?_ _)); exact BK594.out⟩, ⟨by (with_reducible repeat (first | refine blk_drewN ?_ _ | refine blk_drew ?_ | refine blk_alloc ?_ _)); exact BK595.out⟩, ⟨by (with_reducible repeat (first | refine blk_drewN ?_ _ | refine blk_drew ?_ | refine blk_alloc ?_ _)); exact BK604.out⟩, ⟨HB_⟩⟩
                 rw [if_neg c83] at H
                 have c83b0 : (x12_5 == a1_1) = false := beq_eq_false_iff_ne.mpr c83
                 have c83b1 : (x12_5 != a1_1) = true := bne_iff_ne.mpr c83
                 by_cases c91 : (wrap64 (t620 - t618)) > x11_5
                 rotate_left
                 · rw [if_neg c91] at H
                   have c91b0 : decide (x11_5 < (wrap64 (t620 - t618))) = false := decide_eq_false c91
                   have c91b0v : decide (x11_5 < (IntKind.i64.wrap (t620 - t618))) = false := by (try simp only [i64_w]); exact c91b0
                   clear c91
                   have H' := Aside0.mk H
                   clear H
                   have hnb99 := NB594_595.out
                   have hnc99 := NB595_594.out
                   have hnb100 := NB594_604.out
                   have hnc100 := NB604_594.out
                   obtain ⟨hcz101_0, hcz101_1, hfz101_0, hfz101_1⟩ := cz2_ BK594
                   have hnb102 := NB595_604.out
                   have hnc102 := NB604_595.out
                   obtain ⟨hcz103_0, hcz103_1, hcz103_2, hcz103_3, hcz103_4, hfz103_0, hfz103_1, hfz103_2, hfz103_3, hfz103_4⟩ := cz5_ BK595
                   go_wp2_with (first | ((with_reducible refine gate_callee (f := 47) rfl ?_); refine goesL_ (some 108) rfl rfl Try.func47 (by kernel_rfl) rfl #[.agg #[.int .i64 a0_0, .slice A0_1 l0_1.length c0_1], .int .i64 x12_5, .int .i64 a1_1] rfl MP_ ?_; (with_reducible refine (dbm_Bound.calls k5 a0_0 _ _ l0_1 x12_5 a1_1 t618 t619 _ ?side1 ?side2 A81.out).mono ?_); (case side1 => exact sd_ (Kd.C_below HR0_1.out HB.out)); (case side2 => exact HC0_1.out); rintro e w104 ⟨rfl, hb⟩; refine ⟨_, rfl, ?_⟩; have n_ := a_ (rb_ HO_605001 hb) (a_ (bb_ BK594 hb) (a_ (bb_ BK595 hb) (a_ (bb_ BK604 hb) (bs_ HB hb)))); clear HO_605001 BK594 BK595 BK604 HB; obtain ⟨HO_605001, BK594, BK595, BK604, HB⟩ := n_; (try clear hb); (try clear hb2); (try clear hk); (try clear hi)) | ((with_reducible refine gate_callee (f := 56) rfl ?_); refine goesL_ (some 113) rfl rfl Try.func56 (by kernel_rfl) rfl #[.slice (some ad617) l2.length c2, .int .i64 x12_5] rfl MP_ ?_; (with_reducible refine (warrantorref13_Value.calls _ _ l2 x12_5 t620 _ ?side1 ?side2 A82.out).mono ?_); (case side1 => exact sd_ (Kd.C_below HR2.out HB.out)); (case side2 => exact HC2.out); rintro e w' ⟨rfl, ⟨nd, rfl⟩⟩; refine ⟨_, rfl, ?_⟩; obtain ⟨hcz105_0, hcz105_1, hcz105_2, hcz105_3, hcz105_4, hfz105_0, hfz105_1, hfz105_2, hfz105_3, hfz105_4⟩ := cz5_ BK595))
                   go_roundg k5
                   case measure => have := HJ3.out; have := HJ28.out; have := HJ52.out; have := HJ60.out; have := HK5.out; omega
                   case rel => exact ⟨(x11_5), (wrap64 (x12_5 + 1)), (by first | rfl | (simp; done) | (simp [*]; done)), (by first | rfl | (simp; done) | (simp [*]; done)), H', ⟨by have := HJ3.out; have := HJ28.out; have := HJ52.out; have := HJ60.out; have := HK5.out; omega⟩, ⟨by (with_reducible repeat (first | apply Kd.R_alloc | apply Kd.R_drewN | apply Kd.R_drew)); exact HO_605001.out⟩, ⟨by (with_reducible repeat (first | refine blk_drewN ?_ _ | refine blk_drew ?_ | refine blk_alloc ?_ _)); exact BK594.out⟩, ⟨by (with_reducible repeat (first | refine blk_drewN ?_ _ | refine blk_drew ?_ | refine blk_alloc ?_ _)); exact BK595.out⟩, ⟨by (with_reducible repeat (first | refine blk_drewN ?_ _ | refine blk_drew ?_ | refine blk_alloc ?_ _)); exact BK604.out⟩, ⟨HB_⟩⟩
                 rw [if_pos c91] at H
                 have c91b0 : decide (x11_5 < (wrap64 (t620 - t618))) = true := decide_eq_true c91
                 have c91b0v : decide (x11_5 < (IntKind.i64.wrap (t620 - t618))) = true := by (try simp only [i64_w]); exact c91b0
                 clear c91
                 have H' := Aside0.mk H
                 clear H
                 have hnb92 := NB594_595.out
                 have hnc92 := NB595_594.out
                 have hnb93 := NB594_604.out
                 have hnc93 := NB604_594.out
                 obtain ⟨hcz94_0, hcz94_1, hfz94_0, hfz94_1⟩ := cz2_ BK594
                 have hnb95 := NB595_604.out
                 have hnc95 := NB604_595.out
                 obtain ⟨hcz96_0, hcz96_1, hcz96_2, hcz96_3, hcz96_4, hfz96_0, hfz96_1, hfz96_2, hfz96_3, hfz96_4⟩ := cz5_ BK595
                 go_wp2_with (first | ((with_reducible refine gate_callee (f := 47) rfl ?_); refine goesL_ (some 108) rfl rfl Try.func47 (by kernel_rfl) rfl #[.agg #[.int .i64 a0_0, .slice A0_1 l0_1.length c0_1], .int .i64 x12_5, .int .i64 a1_1] rfl MP_ ?_; (with_reducible refine (dbm_Bound.calls k5 a0_0 _ _ l0_1 x12_5 a1_1 t618 t619 _ ?side1 ?side2 A81.out).mono ?_); (case side1 => exact sd_ (Kd.C_below HR0_1.out HB.out)); (case side2 => exact HC0_1.out); rintro e w97 ⟨rfl, hb⟩; refine ⟨_, rfl, ?_⟩; have n_ := a_ (rb_ HO_605001 hb) (a_ (bb_ BK594 hb) (a_ (bb_ BK595 hb) (a_ (bb_ BK604 hb) (bs_ HB hb)))); clear HO_605001 BK594 BK595 BK604 HB; obtain ⟨HO_605001, BK594, BK595, BK604, HB⟩ := n_; (try clear hb); (try clear hb2); (try clear hk); (try clear hi)) | ((with_reducible refine gate_callee (f := 56) rfl ?_); refine goesL_ (some 113) rfl rfl Try.func56 (by kernel_rfl) rfl #[.slice (some ad617) l2.length c2, .int .i64 x12_5] rfl MP_ ?_; (with_reducible refine (warrantorref13_Value.calls _ _ l2 x12_5 t620 _ ?side1 ?side2 A82.out).mono ?_); (case side1 => exact sd_ (Kd.C_below HR2.out HB.out)); (case side2 => exact HC2.out); rintro e w' ⟨rfl, ⟨nd, rfl⟩⟩; refine ⟨_, rfl, ?_⟩; obtain ⟨hcz98_0, hcz98_1, hcz98_2, hcz98_3, hcz98_4, hfz98_0, hfz98_1, hfz98_2, hfz98_3, hfz98_4⟩ := cz5_ BK595))
                 go_roundg k5
                 case measure => have := HJ3.out; have := HJ28.out; have := HJ52.out; have := HJ60.out; have := HK5.out; omega
                 case rel => exact ⟨(wrap64 (t620 - t618)), (wrap64 (x12_5 + 1)), (by first | rfl | (simp; done) | (simp [*]; done)), (by first | rfl | (simp; done) | (simp [*]; done)), H', ⟨by have := HJ3.out; have := HJ28.out; have := HJ52.out; have := HJ60.out; have := HK5.out; omega⟩, ⟨by (with_reducible repeat (first | apply Kd.R_alloc | apply Kd.R_drewN | apply Kd.R_drew)); exact HO_605001.out⟩, ⟨by (with_reducible repeat (first | refine blk_drewN ?_ _ | refine blk_drew ?_ | refine blk_alloc ?_ _)); exact BK594.out⟩, ⟨by (with_reducible repeat (first | refine blk_drewN ?_ _ | refine blk_drew ?_ | refine blk_alloc ?_ _)); exact BK595.out⟩, ⟨by (with_reducible repeat (first | refine blk_drewN ?_ _ | refine blk_drew ?_ | refine blk_alloc ?_ _)); exact BK604.out⟩, ⟨HB_⟩⟩
/-- THE ONE PURE STATEMENT of warrantorlaw14_PostBack: yours. -/
def warrantorlaw14_PostBack.Pure : Prop := ∀ (a0_0 : Int) (l0_1 : List Int) (a1_0 : Int) (a1_1 : Int) (a1_2 : Int) (a1_3 : Int) (a1_4 : Int) (l2 : List Int), (Lit.int .i64 a0_0).wf = true → l0_1.length ≤ maxLen → l0_1.length * 8 ≤ 140737488351232 → (∀ x ∈ l0_1, (Lit.int .i64 x).wf = true) → (Lit.int .i64 a1_0).wf = true → (Lit.int .i64 a1_1).wf = true → (Lit.int .i64 a1_2).wf = true → (Lit.int .i64 a1_3).wf = true → (Lit.int .i64 a1_4).wf = true → l2.length ≤ maxLen → l2.length * 8 ≤ 140737488351232 → (∀ x ∈ l2, (Lit.int .i64 x).wf = true) → ∃ k, warrantorlaw14_PostBack.f k a0_0 l0_1 a1_0 a1_1 a1_2 a1_3 a1_4 l2 = some true
theorem warrantorlaw14_PostBack.walk (P : warrantorlaw14_PostBack.Pure) (a0_0 : Int) (a0_1 : Option Addr) (len0_1 cap0_1 : Nat) (z0_1 : List Int) (a1_0 : Int) (a1_1 : Int) (a1_2 : Int) (a1_3 : Int) (a1_4 : Int) (a2 : Option Addr) (len2 cap2 : Nat) (z2 : List Int) (w : World) (w0_0 : (Lit.int .i64 a0_0).wf = true) (w0_1 : (a0_1 = none ∧ len0_1 = 0 ∧ cap0_1 = 0 ∧ z0_1 = []) ∨ ∃ x, a0_1 = some x ∧ len0_1 ≤ cap0_1 ∧ cap0_1 ≤ maxLen ∧ z0_1.length = cap0_1 ∧ (∀ i, i < z0_1.length → w.cell? (x.add i) = some (.int .i64 (z0_1.getD i 0))) ∧ ∀ n ∈ z0_1, (Lit.int .i64 n).wf = true) (y0_1 : len0_1 * 8 ≤ 140737488351232) (w1_0 : (Lit.int .i64 a1_0).wf = true) (w1_1 : (Lit.int .i64 a1_1).wf = true) (w1_2 : (Lit.int .i64 a1_2).wf = true) (w1_3 : (Lit.int .i64 a1_3).wf = true) (w1_4 : (Lit.int .i64 a1_4).wf = true) (w2 : (a2 = none ∧ len2 = 0 ∧ cap2 = 0 ∧ z2 = []) ∨ ∃ x, a2 = some x ∧ len2 ≤ cap2 ∧ cap2 ≤ maxLen ∧ z2.length = cap2 ∧ (∀ i, i < z2.length → w.cell? (x.add i) = some (.int .i64 (z2.getD i 0))) ∧ ∀ n ∈ z2, (Lit.int .i64 n).wf = true) (y2 : len2 * 8 ≤ 140737488351232) :
  Calls Try.prog 10 #[.agg #[.int .i64 a0_0, .slice a0_1 len0_1 cap0_1], .agg #[.int .i64 a1_0, .int .i64 a1_1, .int .i64 a1_2, .int .i64 a1_3, .int .i64 a1_4], .slice a2 len2 cap2] w fun e w' => e = .returned (.bool true) ∧ Below w.heap.size w w' := by
 obtain ⟨l0_1, rfl, hr0_1, hm0_1, hw0_1, hc0_1⟩ := ReadsInt.ofRowC w0_1
 obtain ⟨l2, rfl, hr2, hm2, hw2, hc2⟩ := ReadsInt.ofRowC w2
 obtain ⟨k, h⟩ := P a0_0 l0_1 a1_0 a1_1 a1_2 a1_3 a1_4 l2 w0_0 hm0_1 y0_1 hw0_1 w1_0 w1_1 w1_2 w1_3 w1_4 hm2 y2 hw2
 refine (warrantorlaw14_PostBack.calls k a0_0 _ _ l0_1 a1_0 a1_1 a1_2 a1_3 a1_4 _ _ l2 true w (Kd.C_of_reads (d := (0 : Int)) (h1 := fun _ => rfl) hr0_1) hc0_1 (Kd.C_of_reads (d := (0 : Int)) (h1 := fun _ => rfl) hr2) hc2 h).mono ?_
 rintro e w' ⟨rfl, hd⟩
 exact ⟨rfl, hd⟩
end Go.Proofs.Ytgeemdpflcefkaa.Y
