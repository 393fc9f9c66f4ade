-- WRITTEN BY this session's program wip/ext.py, in print.py's manner
import Derived.Test.YtgeemdpflcefkaaZx0
import Derived.Test.YtgeemdpflcefkaaZx1
import Derived.Test.YtgeemdpflcefkaaZx3
import Derived.Test.YtgeemdpflcefkaaZx15
import Derived.Test.YtgeemdpflcefkaaZx16
import Derived.Test.YtgeemdpflcefkaaZx17
import Derived.Test.YtgeemdpflcefkaaZx19
import Derived.Test.YtgeemdpflcefkaaZx21
import Derived.Test.YtgeemdpflcefkaaZx23
import Derived.Test.YtgeemdpflcefkaaZx24
import Derived.Test.YtgeemdpflcefkaaZx33
import Derived.Test.YtgeemdpflcefkaaZx35
import Derived.Test.YtgeemdpflcefkaaZx39
import Derived.Test.YtgeemdpflcefkaaZx41
import Derived.Test.YtgeemdpflcefkaaZx42
import Derived.Test.YtgeemdpflcefkaaZx44
namespace Go.Proofs.Ytgeemdpflcefkaa.Z
open Go.RowKit Go.Proofs.YtgeemdpflcefkaaW.PrintWords Go.Proofs.YtgeemdpflcefkaaW.PrintLast Go.Proofs.YtgeemdpflcefkaaW.PrintMore
attribute [local go_sem] max2_int min2_int max_two min_two max_three min_three max_four min_four   -- for this text's walks alone
set_option linter.unusedVariables false
set_option linter.unusedSimpArgs false

attribute [local go_sem high] eqA39
/-! ### warrantorlaw09_ZoneHas_v0: function 11 -/
def warrantorlaw09_ZoneHas_v0.j0 : Nat → List Int → Int → Int → Int → Bool → Int → List Int → Int → List Int → Option (Bool)
  | 0, _, _, _, _, _, _, _, _, _ => none
  | k + 1, x2, x3, x4, x5, x67, x576000, x576001, x577000, x577001 => if x67 = true then ((warrantorlaw09_lives.f k).bind fun t582 => (some t582)) else ((zone_Meet.f k x576000 x576001 x577000 x577001).bind fun bt583 => ((zone_Join.f k x576000 x576001 x577000 x577001).bind fun bt589 => ((zone_Widen.f k x576000 x576001 x577000 x577001).bind fun bt595 => ((zone_Limit.f k x576000 x576001 x3 x4 x5).bind fun bt601 => ((dbm_Has.f k x576000 x576001 x2).bind fun t607 => ((dbm_Has.f k x577000 x577001 x2).bind fun t608 => ((warrantorlaw09_lives.f k).bind fun t609 => (if t609 = true then ((dbm_Has.f k bt583.1 bt583.2.1 x2).bind fun t610 => (if t607 = true then (if (t610 != t608) = true then (none) else ((dbm_Has.f k bt589.1 bt589.2.1 x2).bind fun t611 => (if t611 = true then ((dbm_Has.f k bt595.1 bt595.2.1 x2).bind fun t612 => (if t612 = true then ((dbm_Has.f k bt601.1 bt601.2.1 x2).bind fun t613 => ((warrantorlaw09_value.f x2 x3).bind fun t614 => ((warrantorlaw09_value.f x2 x4).bind fun t615 => (if (t613 != (decide ((wrap64 (t614 - t615)) ≤ x5))) = true then (none) else ((zone_Forget.f k x576000 x576001 x3).bind fun bt616 => ((zone_Itv.f k bt616.1 bt616.2.1 x3).bind fun bt622 => ((warrantorlaw09_value.f x2 x4).bind fun t626 => ((warrantorref06_Clip.f x5).bind fun t627 => ((warrantorref06_Clip.f x5).bind fun t628 => ((zone_Let.f k x576000 x576001 x3 x4 t628).bind fun bt629 => ((itv_All.f).bind fun bt635 => (if (bt622.1 == bt635.1 && (bt622.2.1 == bt635.2)) = true then ((warrantorref06_Clip.f x5).bind fun t637 => ((warrantorlaw09_with.f x2 x3 t637).bind fun t638 => ((dbm_Has.f k bt616.1 bt616.2.1 t638).bind fun t641 => (if t641 = true then ((warrantorlaw09_with.f x2 x3 (wrap64 (t626 + t627))).bind fun t642 => ((dbm_Has.f k bt629.1 bt629.2.1 t642).bind fun t645 => ((warrantorref06_Is.f (wrap64 (t626 + t627))).bind fun t646 => (some (t645 == t646))))) else (none))))) else (none))))))))))))) else (none))) else (none)))) else (none))) else (none)))))))))
def warrantorlaw09_ZoneHas_v0.f (k : Nat) (a0_0 : Int) (l0_1 : List Int) (a1_0 : Int) (l1_1 : List Int) (l2 : List Int) (a3 : Int) (a4 : Int) (a5 : Int) : Option (Bool) := (warrantorref08_Large.f l0_1).bind fun t577 => (if t577 = true then (warrantorlaw09_ZoneHas_v0.j0 k l2 a3 a4 a5 true a0_0 l0_1 a1_0 l1_1) else ((warrantorref08_Large.f l1_1).bind fun t578 => (if t578 = true then (warrantorlaw09_ZoneHas_v0.j0 k l2 a3 a4 a5 true a0_0 l0_1 a1_0 l1_1) else (if (l2.length : Int) > 8 then (warrantorlaw09_ZoneHas_v0.j0 k l2 a3 a4 a5 true a0_0 l0_1 a1_0 l1_1) else ((warrantorref09_Two.f k a0_0 l0_1 a1_0 l1_1).bind fun t579 => (if t579 = 0 then (if (l2.length : Int) = a0_0 then ((warrantorref09_Var.f a0_0 l0_1 a3).bind fun t580 => (if t580 = true then ((warrantorref09_Or0.f a0_0 l0_1 a4).bind fun t581 => (warrantorlaw09_ZoneHas_v0.j0 k l2 a3 a4 a5 (!t581) a0_0 l0_1 a1_0 l1_1)) else (warrantorlaw09_ZoneHas_v0.j0 k l2 a3 a4 a5 true a0_0 l0_1 a1_0 l1_1))) else (warrantorlaw09_ZoneHas_v0.j0 k l2 a3 a4 a5 true a0_0 l0_1 a1_0 l1_1)) else (warrantorlaw09_ZoneHas_v0.j0 k l2 a3 a4 a5 true a0_0 l0_1 a1_0 l1_1)))))))
theorem warrantorlaw09_ZoneHas_v0.mono_l : ∀ k, (∀ y0 y1 y2 y3 y4 y5 y6 y7 y8, LeO (warrantorlaw09_ZoneHas_v0.j0 k y0 y1 y2 y3 y4 y5 y6 y7 y8) (warrantorlaw09_ZoneHas_v0.j0 (k + 1) y0 y1 y2 y3 y4 y5 y6 y7 y8))
  | 0 => fun _ _ _ _ _ _ _ _ _ r h => by simp [warrantorlaw09_ZoneHas_v0.j0] at h
  | k + 1 => by
    have ih0 := warrantorlaw09_ZoneHas_v0.mono_l k
    · intro y0 y1 y2 y3 y4 y5 y6 y7 y8
      unfold warrantorlaw09_ZoneHas_v0.j0
      repeat' first
      | (with_reducible exact ih0 _ _ _ _ _ _ _ _ _)
      | (with_reducible exact dbm_Has.mono _ _ _ _)
      | (with_reducible exact warrantorlaw09_lives.mono _)
      | (with_reducible exact warrantorref09_Two.mono _ _ _ _ _)
      | (with_reducible exact zone_Forget.mono _ _ _ _)
      | (with_reducible exact zone_Itv.mono _ _ _ _)
      | (with_reducible exact zone_Join.mono _ _ _ _ _)
      | (with_reducible exact zone_Let.mono _ _ _ _ _ _)
      | (with_reducible exact zone_Limit.mono _ _ _ _ _ _)
      | (with_reducible exact zone_Meet.mono _ _ _ _ _)
      | (with_reducible exact zone_Widen.mono _ _ _ _ _)
      | (with_reducible exact LeO.refl _)
      | (with_reducible exact LeO.none _)
      | (with_reducible refine LeO.ite ?_ ?_)
      | (with_reducible refine LeO.bind ?_ (fun _ => ?_))
      | exact ih0 _ _ _ _ _ _ _ _ _
      | exact dbm_Has.mono _ _ _ _
      | exact warrantorlaw09_lives.mono _
      | exact warrantorref09_Two.mono _ _ _ _ _
      | exact zone_Forget.mono _ _ _ _
      | exact zone_Itv.mono _ _ _ _
      | exact zone_Join.mono _ _ _ _ _
      | exact zone_Let.mono _ _ _ _ _ _
      | exact zone_Limit.mono _ _ _ _ _ _
      | exact zone_Meet.mono _ _ _ _ _
      | exact zone_Widen.mono _ _ _ _ _
      | exact LeO.none _
      | refine LeO.ite ?_ ?_
      | refine LeO.bind ?_ (fun _ => ?_)
theorem warrantorlaw09_ZoneHas_v0.mono : ∀ a0 a1 a2 a3 a4 a5 a6 a7 k, LeO (warrantorlaw09_ZoneHas_v0.f k a0 a1 a2 a3 a4 a5 a6 a7) (warrantorlaw09_ZoneHas_v0.f (k + 1) a0 a1 a2 a3 a4 a5 a6 a7) := by
  intro a0 a1 a2 a3 a4 a5 a6 a7 k
  have ih0 := warrantorlaw09_ZoneHas_v0.mono_l k
  unfold warrantorlaw09_ZoneHas_v0.f
  repeat' first
      | (with_reducible exact ih0 _ _ _ _ _ _ _ _ _)
      | (with_reducible exact dbm_Has.mono _ _ _ _)
      | (with_reducible exact warrantorlaw09_lives.mono _)
      | (with_reducible exact warrantorref09_Two.mono _ _ _ _ _)
      | (with_reducible exact zone_Forget.mono _ _ _ _)
      | (with_reducible exact zone_Itv.mono _ _ _ _)
      | (with_reducible exact zone_Join.mono _ _ _ _ _)
      | (with_reducible exact zone_Let.mono _ _ _ _ _ _)
      | (with_reducible exact zone_Limit.mono _ _ _ _ _ _)
      | (with_reducible exact zone_Meet.mono _ _ _ _ _)
      | (with_reducible exact zone_Widen.mono _ _ _ _ _)
      | (with_reducible exact LeO.refl _)
      | (with_reducible exact LeO.none _)
      | (with_reducible refine LeO.ite ?_ ?_)
      | (with_reducible refine LeO.bind ?_ (fun _ => ?_))
      | exact ih0 _ _ _ _ _ _ _ _ _
      | exact dbm_Has.mono _ _ _ _
      | exact warrantorlaw09_lives.mono _
      | exact warrantorref09_Two.mono _ _ _ _ _
      | exact zone_Forget.mono _ _ _ _
      | exact zone_Itv.mono _ _ _ _
      | exact zone_Join.mono _ _ _ _ _
      | exact zone_Let.mono _ _ _ _ _ _
      | exact zone_Limit.mono _ _ _ _ _ _
      | exact zone_Meet.mono _ _ _ _ _
      | exact zone_Widen.mono _ _ _ _ _
      | exact LeO.none _
      | refine LeO.ite ?_ ?_
      | refine LeO.bind ?_ (fun _ => ?_)
def warrantorlaw09_ZoneHas_v0.T7 : Bool × List (List Nat × List Nat) := (true, [([], []), ([], []), ([0, 1], [0, 1]), ([], []), ([], []), ([3, 4, 2], [3, 4]), ([2, 5, 0, 1, 2], [2]), ([5, 6, 0, 1, 2, 3, 4, 5, 6], [5])])
def warrantorlaw09_ZoneHas_v0.B7 : List Nat := [0, 0, 3, 0, 0, 31, 63, 127]
theorem warrantorlaw09_ZoneHas_v0.tab7 : rtab .any (opsOf Try.f11 7) = warrantorlaw09_ZoneHas_v0.T7 := by kernel_rfl
theorem warrantorlaw09_ZoneHas_v0.bits7 : waitsOk warrantorlaw09_ZoneHas_v0.T7.2 warrantorlaw09_ZoneHas_v0.B7 = true := by kernel_rfl
def warrantorlaw09_ZoneHas_v0.T17 : Bool × List (List Nat × List Nat) := (true, [([], []), ([], []), ([], []), ([], []), ([3], [3]), ([0, 1, 2, 4, 4], [0, 1, 2, 4]), ([5], [5]), ([6], [6]), ([6], [6]), ([], []), ([9, 7, 5, 0, 1, 2, 3, 4, 5, 6, 7, 9], [7, 9]), ([8, 10, 0, 1, 2, 3, 4, 5, 6, 7, 8, 9, 10], [8])])
def warrantorlaw09_ZoneHas_v0.B17 : List Nat := [0, 0, 0, 0, 8, 31, 63, 127, 127, 0, 767, 2047]
theorem warrantorlaw09_ZoneHas_v0.tab17 : rtab .any (opsOf Try.f11 17) = warrantorlaw09_ZoneHas_v0.T17 := by kernel_rfl
theorem warrantorlaw09_ZoneHas_v0.bits17 : waitsOk warrantorlaw09_ZoneHas_v0.T17.2 warrantorlaw09_ZoneHas_v0.B17 = true := by kernel_rfl
def warrantorlaw09_ZoneHas_v0.T18 : Bool × List (List Nat × List Nat) := (true, [([], []), ([], []), ([0, 1], [0, 1]), ([2, 1], [2]), ([3], [3]), ([3], [3]), ([3], [3]), ([3], [3]), ([7, 3, 3], [3, 7]), ([5, 6, 8, 8, 3], [3, 5, 6, 8]), ([4, 9, 9, 3], [3, 4, 9]), ([3, 10], [3, 10]), ([11, 10], [11]), ([12], [12]), ([12], [12]), ([12], [12]), ([12], [12]), ([14, 15, 16, 12, 12], [12, 14, 15, 16]), ([13, 17, 17, 12], [12, 13, 17]), ([12], [12]), ([19, 18, 12], [12, 19]), ([18, 20, 12], [12, 18, 20]), ([12, 21], [12, 21]), ([22, 20, 0, 1, 2, 3, 4, 5, 6, 7, 8, 9, 10, 11, 12, 13, 14, 15, 16, 17, 18, 19, 20, 21, 22], [22])])
def warrantorlaw09_ZoneHas_v0.B18 : List Nat := [0, 0, 3, 7, 15, 15, 15, 15, 143, 495, 1023, 2047, 4095, 8191, 8191, 8191, 8191, 122879, 262143, 8191, 1048575, 2097151, 4194303, 8388607]
theorem warrantorlaw09_ZoneHas_v0.tab18 : rtab .any (opsOf Try.f11 18) = warrantorlaw09_ZoneHas_v0.T18 := by kernel_rfl
theorem warrantorlaw09_ZoneHas_v0.bits18 : waitsOk warrantorlaw09_ZoneHas_v0.T18.2 warrantorlaw09_ZoneHas_v0.B18 = true := by kernel_rfl
set_option maxHeartbeats 8000000 in
set_option maxRecDepth 100000 in
theorem warrantorlaw09_ZoneHas_v0.calls (k : Nat) (a0_0 : Int) (A0_1 : Option Addr) (c0_1 : Nat) (l0_1 : List Int) (a1_0 : Int) (A1_1 : Option Addr) (c1_1 : Nat) (l1_1 : List Int) (A2 : Option Addr) (c2 : Nat) (l2 : List Int) (a3 : Int) (a4 : Int) (a5 : Int) (r : Bool) (w : World) (hr0_1 : Kd.C (Kd.int .i64) w A0_1 l0_1.length l0_1) (hc0_1 : l0_1.length ≤ c0_1) (hr1_1 : Kd.C (Kd.int .i64) w A1_1 l1_1.length l1_1) (hc1_1 : l1_1.length ≤ c1_1) (hr2 : Kd.C (Kd.int .i64) w A2 l2.length l2) (hc2 : l2.length ≤ c2) (h : warrantorlaw09_ZoneHas_v0.f k a0_0 l0_1 a1_0 l1_1 l2 a3 a4 a5 = some r) :
    Calls Try.prog 11 #[.agg #[.int .i64 a0_0, .slice A0_1 l0_1.length c0_1], .agg #[.int .i64 a1_0, .slice A1_1 l1_1.length c1_1], .slice A2 l2.length c2, .int .i64 a3, .int .i64 a4, .int .i64 a5] w fun e w' => e = .returned (.bool r) ∧ Below w.heap.size w w' := by
  have hu24 := Try.underlying24
  have hu39 := Try.underlying39
  have HR0_1 := Aside0.mk hr0_1
  have HC0_1 := Aside0.mk hc0_1
  clear hr0_1 hc0_1
  have HR1_1 := Aside0.mk hr1_1
  have HC1_1 := Aside0.mk hc1_1
  clear hr1_1 hc1_1
  have HR2 := Aside0.mk hr2
  have HC2 := Aside0.mk hc2
  clear hr2 hc2
  have HB := Aside0.mk (Below.refl w.heap.size w)
  have H : ((warrantorref08_Large.f l0_1).bind fun t577 => (if t577 = true then (warrantorlaw09_ZoneHas_v0.j0 k l2 a3 a4 a5 true a0_0 l0_1 a1_0 l1_1) else ((warrantorref08_Large.f l1_1).bind fun t578 => (if t578 = true then (warrantorlaw09_ZoneHas_v0.j0 k l2 a3 a4 a5 true a0_0 l0_1 a1_0 l1_1) else (if (l2.length : Int) > 8 then (warrantorlaw09_ZoneHas_v0.j0 k l2 a3 a4 a5 true a0_0 l0_1 a1_0 l1_1) else ((warrantorref09_Two.f k a0_0 l0_1 a1_0 l1_1).bind fun t579 => (if t579 = 0 then (if (l2.length : Int) = a0_0 then ((warrantorref09_Var.f a0_0 l0_1 a3).bind fun t580 => (if t580 = true then ((warrantorref09_Or0.f a0_0 l0_1 a4).bind fun t581 => (warrantorlaw09_ZoneHas_v0.j0 k l2 a3 a4 a5 (!t581) a0_0 l0_1 a1_0 l1_1)) else (warrantorlaw09_ZoneHas_v0.j0 k l2 a3 a4 a5 true a0_0 l0_1 a1_0 l1_1))) else (warrantorlaw09_ZoneHas_v0.j0 k l2 a3 a4 a5 true a0_0 l0_1 a1_0 l1_1)) else (warrantorlaw09_ZoneHas_v0.j0 k l2 a3 a4 a5 true a0_0 l0_1 a1_0 l1_1)))))))) = some r := h
  clear h
  have HC7 := Aside0.mk H
  clear H
  go_enter Try.func11, Try.ntmps11
  go_upto_region 1 with (first | ((with_reducible refine gate_dst (N := 6) rfl ?_); (try (refine gate_guard (by rfl) ?_; dsimp only)); refine bx_ (N := 6) (cs := #[.int .i64 a0_0, .slice A0_1 l0_1.length c0_1]) (t := 24) ?_; intro gb575 hg w8 hbox hb; have n_ := a_ (bs_ HB hb) (a_ (Aside0.mk hbox) (a_ (gs_ HB hg) (gs_ HB hg))); clear HB; obtain ⟨HB, BK575, GW575, GE575⟩ := n_; clear hb hbox hg) | ((with_reducible refine gate_dst (N := 7) rfl ?_); (try (refine gate_guard (by rfl) ?_; dsimp only)); refine bx_ (N := 7) (cs := #[.int .i64 a1_0, .slice A1_1 l1_1.length c1_1]) (t := 24) ?_; intro gb576 hg w9 hbox hb; have n_ := a_ (bb_ BK575 hb) (a_ (bs_ HB hb) (a_ (Aside0.mk hbox) (a_ (gs_ HB hg) (a_ (gs_ HB hg) (a_ (nl_ BK575 hg) (ng_ BK575 hg)))))); clear BK575 HB; obtain ⟨BK575, HB, BK576, GW576, GE576, NB575_576, NB576_575⟩ := n_; clear hb hbox hg))
  (try simp only [Act.put, List.setIfInBounds_toArray, List.set_cons_zero, List.set_cons_succ])
  go_cut [67] (fun v67 wc => ∃ (kq : Nat) (x67_6 : Bool), v67 = .bool x67_6 ∧ Aside0 (warrantorlaw09_ZoneHas_v0.j0 kq l2 a3 a4 a5 x67_6 a0_0 l0_1 a1_0 l1_1 = some r) ∧ Aside0 (kq ≤ k) ∧ Aside0 (wc.heap[gb575]? = some (.cells #[.int .i64 a0_0, (.slice A0_1 l0_1.length c0_1)] 24 (0, 0))) ∧ Aside0 (wc.heap[gb576]? = some (.cells #[.int .i64 a1_0, (.slice A1_1 l1_1.length c1_1)] 24 (0, 0))) ∧ Aside0 (Below w.heap.size w wc))
  case first =>
    have H := HC7.out
    clear HC7
    replace H := bd_ H
    obtain ⟨t577, A10, H⟩ := H
    (try dsimp only at H)
    by_cases c11 : t577 = true
    · subst c11
      replace H := ps1_ H
      have H' := Aside0.mk H
      clear H
      have hnb12 := NB575_576.out
      have hnc12 := NB576_575.out
      obtain ⟨hcz13_0, hcz13_1, hfz13_0, hfz13_1⟩ := cz2_ BK575
      go_wp2_with (first | ((with_reducible refine gate_callee (f := 12) rfl ?_); refine goesL_ (some 32) rfl rfl Try.func12 (by kernel_rfl) rfl #[.slice A0_1 l0_1.length c0_1] rfl MP_ ?_; (with_reducible refine (warrantorref08_Large.calls _ _ l0_1 true _ ?side1 ?side2 A10.out).mono ?_); (case side1 => exact sd_ (Kd.C_below HR0_1.out HB.out)); (case side2 => exact HC0_1.out); rintro e w' ⟨rfl, ⟨nd, rfl⟩⟩; refine ⟨_, rfl, ?_⟩))
      go_meet
      case rel => exact ⟨_, (true), (by first | rfl | (simp; done) | (simp [*]; done)), H', ⟨by first | omega | exact Nat.le_refl _⟩, ⟨by (with_reducible repeat (first | refine blk_drewN ?_ _ | refine blk_drew ?_ | refine blk_alloc ?_ _)); exact BK575.out⟩, ⟨by (with_reducible repeat (first | refine blk_drewN ?_ _ | refine blk_drew ?_ | refine blk_alloc ?_ _)); exact BK576.out⟩, ⟨HB_⟩⟩
    replace c11 := Bool.eq_false_iff.mpr c11
    subst c11
    replace H := ng1_ H
    replace H := bd_ H
    obtain ⟨t578, A14, H⟩ := H
    (try dsimp only at H)
    by_cases c15 : t578 = true
    · subst c15
      replace H := ps1_ H
      have H' := Aside0.mk H
      clear H
      have hnb16 := NB575_576.out
      have hnc16 := NB576_575.out
      obtain ⟨hcz17_0, hcz17_1, hfz17_0, hfz17_1⟩ := cz2_ BK575
      go_wp2_with (first | ((with_reducible refine gate_callee (f := 12) rfl ?_); refine goesL_ (some 32) rfl rfl Try.func12 (by kernel_rfl) rfl #[.slice A0_1 l0_1.length c0_1] rfl MP_ ?_; (with_reducible refine (warrantorref08_Large.calls _ _ l0_1 false _ ?side1 ?side2 A10.out).mono ?_); (case side1 => exact sd_ (Kd.C_below HR0_1.out HB.out)); (case side2 => exact HC0_1.out); rintro e w' ⟨rfl, ⟨nd, rfl⟩⟩; refine ⟨_, rfl, ?_⟩; obtain ⟨hcz18_0, hcz18_1, hfz18_0, hfz18_1⟩ := cz2_ BK576; (try clear A10)) | (go_at_call 12; (with_reducible refine (warrantorref08_Large.calls _ _ l1_1 true _ ?side1 ?side2 A14.out).mono ?_); (case side1 => repeat (first | exact (Kd.C_below HR1_1.out HB_) | (with_reducible refine Kd.C_alloc ?_ _) | (with_reducible refine Kd.C_drewN ?_ _) | (with_reducible refine Kd.C_drew ?_))); (case side2 => exact HC1_1.out); rintro e w' ⟨rfl, ⟨nd, rfl⟩⟩))
      go_meet
      case rel => exact ⟨_, (true), (by first | rfl | (simp; done) | (simp [*]; done)), H', ⟨by first | omega | exact Nat.le_refl _⟩, ⟨by (with_reducible repeat (first | refine blk_drewN ?_ _ | refine blk_drew ?_ | refine blk_alloc ?_ _)); exact BK575.out⟩, ⟨by (with_reducible repeat (first | refine blk_drewN ?_ _ | refine blk_drew ?_ | refine blk_alloc ?_ _)); exact BK576.out⟩, ⟨HB_⟩⟩
    replace c15 := Bool.eq_false_iff.mpr c15
    subst c15
    replace H := ng1_ H
    by_cases c19 : (l2.length : Int) > 8
    · rw [if_pos c19] at H
      have c19b0 : decide (8 < (l2.length : Int)) = true := decide_eq_true c19
      have c19b1 : decide (8 < l2.length) = true := decide_eq_true (by omega)
      clear c19
      (first | rw [c19b0] | (simp only [i64_w, i32_w]; rw [c19b0]) | skip)
      have H' := Aside0.mk H
      clear H
      have hnb20 := NB575_576.out
      have hnc20 := NB576_575.out
      obtain ⟨hcz21_0, hcz21_1, hfz21_0, hfz21_1⟩ := cz2_ BK575
      go_wp2_with (first | ((with_reducible refine gate_callee (f := 12) rfl ?_); refine goesL_ (some 32) rfl rfl Try.func12 (by kernel_rfl) rfl #[.slice A0_1 l0_1.length c0_1] rfl MP_ ?_; (with_reducible refine (warrantorref08_Large.calls _ _ l0_1 false _ ?side1 ?side2 A10.out).mono ?_); (case side1 => exact sd_ (Kd.C_below HR0_1.out HB.out)); (case side2 => exact HC0_1.out); rintro e w' ⟨rfl, ⟨nd, rfl⟩⟩; refine ⟨_, rfl, ?_⟩; obtain ⟨hcz22_0, hcz22_1, hfz22_0, hfz22_1⟩ := cz2_ BK576; (try clear A10)) | (go_at_call 12; (with_reducible refine (warrantorref08_Large.calls _ _ l1_1 false _ ?side1 ?side2 A14.out).mono ?_); (case side1 => repeat (first | exact (Kd.C_below HR1_1.out HB_) | (with_reducible refine Kd.C_alloc ?_ _) | (with_reducible refine Kd.C_drewN ?_ _) | (with_reducible refine Kd.C_drew ?_))); (case side2 => exact HC1_1.out); rintro e w' ⟨rfl, ⟨nd, rfl⟩⟩))
      go_meet
      case rel => exact ⟨_, (true), (by first | rfl | (simp; done) | (simp [*]; done)), H', ⟨by first | omega | exact Nat.le_refl _⟩, ⟨by (with_reducible repeat (first | refine blk_drewN ?_ _ | refine blk_drew ?_ | refine blk_alloc ?_ _)); exact BK575.out⟩, ⟨by (with_reducible repeat (first | refine blk_drewN ?_ _ | refine blk_drew ?_ | refine blk_alloc ?_ _)); exact BK576.out⟩, ⟨HB_⟩⟩
    rw [if_neg c19] at H
    have c19b0 : decide (8 < (l2.length : Int)) = false := decide_eq_false c19
    have c19b1 : decide (8 < l2.length) = false := decide_eq_false (by omega)
    clear c19
    (first | rw [c19b0] | (simp only [i64_w, i32_w]; rw [c19b0]) | skip)
    replace H := bd_ H
    obtain ⟨t579, A23, H⟩ := H
    (try dsimp only at H)
    by_cases c24 : t579 = 0
    rotate_left
    · rw [if_neg c24] at H
      have c24b0 : (t579 == 0) = false := beq_eq_false_iff_ne.mpr c24
      have c24b1 : (t579 != 0) = true := bne_iff_ne.mpr c24
      have H' := Aside0.mk H
      clear H
      have hnb48 := NB575_576.out
      have hnc48 := NB576_575.out
      obtain ⟨hcz49_0, hcz49_1, hfz49_0, hfz49_1⟩ := cz2_ BK575
      go_wp2_with (first | ((with_reducible refine gate_callee (f := 12) rfl ?_); refine goesL_ (some 32) rfl rfl Try.func12 (by kernel_rfl) rfl #[.slice A0_1 l0_1.length c0_1] rfl MP_ ?_; (with_reducible refine (warrantorref08_Large.calls _ _ l0_1 false _ ?side1 ?side2 A10.out).mono ?_); (case side1 => exact sd_ (Kd.C_below HR0_1.out HB.out)); (case side2 => exact HC0_1.out); rintro e w' ⟨rfl, ⟨nd, rfl⟩⟩; refine ⟨_, rfl, ?_⟩; obtain ⟨hcz50_0, hcz50_1, hfz50_0, hfz50_1⟩ := cz2_ BK576; (try clear A10)) | (go_at_call 12; (with_reducible refine (warrantorref08_Large.calls _ _ l1_1 false _ ?side1 ?side2 A14.out).mono ?_); (case side1 => repeat (first | exact (Kd.C_below HR1_1.out HB_) | (with_reducible refine Kd.C_alloc ?_ _) | (with_reducible refine Kd.C_drewN ?_ _) | (with_reducible refine Kd.C_drew ?_))); (case side2 => exact HC1_1.out); rintro e w' ⟨rfl, ⟨nd, rfl⟩⟩) | (go_at_call 34; (with_reducible refine (warrantorref09_Two.calls k a0_0 _ _ l0_1 a1_0 _ _ l1_1 t579 _ ?side1 ?side2 ?side3 ?side4 A23.out).mono ?_); (case side1 => repeat (first | exact (Kd.C_below HR0_1.out HB_) | (with_reducible refine Kd.C_alloc ?_ _) | (with_reducible refine Kd.C_drewN ?_ _) | (with_reducible refine Kd.C_drew ?_))); (case side2 => exact HC0_1.out); (case side3 => repeat (first | exact (Kd.C_below HR1_1.out HB_) | (with_reducible refine Kd.C_alloc ?_ _) | (with_reducible refine Kd.C_drewN ?_ _) | (with_reducible refine Kd.C_drew ?_))); (case side4 => exact HC1_1.out); rintro e w51 ⟨rfl, hb⟩; have n_ := a_ (bb_ BK575 hb) (a_ (bb_ BK576 hb) (bs_ HB hb)); clear BK575 BK576 HB; obtain ⟨BK575, BK576, HB⟩ := n_; (try clear hb); (try clear hb2); (try clear hk); (try clear hi)))
      go_meet
      case rel => exact ⟨_, (true), (by first | rfl | (simp; done) | (simp [*]; done)), H', ⟨by first | omega | exact Nat.le_refl _⟩, ⟨by (with_reducible repeat (first | refine blk_drewN ?_ _ | refine blk_drew ?_ | refine blk_alloc ?_ _)); exact BK575.out⟩, ⟨by (with_reducible repeat (first | refine blk_drewN ?_ _ | refine blk_drew ?_ | refine blk_alloc ?_ _)); exact BK576.out⟩, ⟨HB_⟩⟩
    rw [if_pos c24] at H
    have c24b0 : (t579 == 0) = true := beq_iff_eq.mpr c24
    have c24b1 : (t579 != 0) = false := bne_eq_false_iff_eq.mpr c24
    clear c24
    by_cases c25 : (l2.length : Int) = a0_0
    rotate_left
    · rw [if_neg c25] at H
      have c25b0 : ((l2.length : Int) == a0_0) = false := beq_eq_false_iff_ne.mpr c25
      have c25b1 : ((l2.length : Int) != a0_0) = true := bne_iff_ne.mpr c25
      have H' := Aside0.mk H
      clear H
      have hnb43 := NB575_576.out
      have hnc43 := NB576_575.out
      obtain ⟨hcz44_0, hcz44_1, hfz44_0, hfz44_1⟩ := cz2_ BK575
      go_wp2_with (first | ((with_reducible refine gate_callee (f := 12) rfl ?_); refine goesL_ (some 32) rfl rfl Try.func12 (by kernel_rfl) rfl #[.slice A0_1 l0_1.length c0_1] rfl MP_ ?_; (with_reducible refine (warrantorref08_Large.calls _ _ l0_1 false _ ?side1 ?side2 A10.out).mono ?_); (case side1 => exact sd_ (Kd.C_below HR0_1.out HB.out)); (case side2 => exact HC0_1.out); rintro e w' ⟨rfl, ⟨nd, rfl⟩⟩; refine ⟨_, rfl, ?_⟩; obtain ⟨hcz45_0, hcz45_1, hfz45_0, hfz45_1⟩ := cz2_ BK576; (try clear A10)) | (go_at_call 12; (with_reducible refine (warrantorref08_Large.calls _ _ l1_1 false _ ?side1 ?side2 A14.out).mono ?_); (case side1 => repeat (first | exact (Kd.C_below HR1_1.out HB_) | (with_reducible refine Kd.C_alloc ?_ _) | (with_reducible refine Kd.C_drewN ?_ _) | (with_reducible refine Kd.C_drew ?_))); (case side2 => exact HC1_1.out); rintro e w' ⟨rfl, ⟨nd, rfl⟩⟩) | (go_at_call 34; (with_reducible refine (warrantorref09_Two.calls k a0_0 _ _ l0_1 a1_0 _ _ l1_1 t579 _ ?side1 ?side2 ?side3 ?side4 A23.out).mono ?_); (case side1 => repeat (first | exact (Kd.C_below HR0_1.out HB_) | (with_reducible refine Kd.C_alloc ?_ _) | (with_reducible refine Kd.C_drewN ?_ _) | (with_reducible refine Kd.C_drew ?_))); (case side2 => exact HC0_1.out); (case side3 => repeat (first | exact (Kd.C_below HR1_1.out HB_) | (with_reducible refine Kd.C_alloc ?_ _) | (with_reducible refine Kd.C_drewN ?_ _) | (with_reducible refine Kd.C_drew ?_))); (case side4 => exact HC1_1.out); rintro e w46 ⟨rfl, hb⟩; have n_ := a_ (bb_ BK575 hb) (a_ (bb_ BK576 hb) (bs_ HB hb)); clear BK575 BK576 HB; obtain ⟨BK575, BK576, HB⟩ := n_; (try clear hb); (try clear hb2); (try clear hk); (try clear hi); obtain ⟨hcz47_0, hcz47_1, hfz47_0, hfz47_1⟩ := cz2_ BK575))
      go_meet
      case rel => exact ⟨_, (true), (by first | rfl | (simp; done) | (simp [*]; done)), H', ⟨by first | omega | exact Nat.le_refl _⟩, ⟨by (with_reducible repeat (first | refine blk_drewN ?_ _ | refine blk_drew ?_ | refine blk_alloc ?_ _)); exact BK575.out⟩, ⟨by (with_reducible repeat (first | refine blk_drewN ?_ _ | refine blk_drew ?_ | refine blk_alloc ?_ _)); exact BK576.out⟩, ⟨HB_⟩⟩
    rw [if_pos c25] at H
    have c25b0 : ((l2.length : Int) == a0_0) = true := beq_iff_eq.mpr c25
    have c25b1 : ((l2.length : Int) != a0_0) = false := bne_eq_false_iff_eq.mpr c25
    clear c25
    replace H := bd_ H
    obtain ⟨t580, A26, H⟩ := H
    (try dsimp only at H)
    by_cases c27 : t580 = true
    rotate_left
    · replace c27 := Bool.eq_false_iff.mpr c27
      subst c27
      replace H := ng1_ H
      have H' := Aside0.mk H
      clear H
      have hnb37 := NB575_576.out
      have hnc37 := NB576_575.out
      obtain ⟨hcz38_0, hcz38_1, hfz38_0, hfz38_1⟩ := cz2_ BK575
      go_wp2_with (first | ((with_reducible refine gate_callee (f := 12) rfl ?_); refine goesL_ (some 32) rfl rfl Try.func12 (by kernel_rfl) rfl #[.slice A0_1 l0_1.length c0_1] rfl MP_ ?_; (with_reducible refine (warrantorref08_Large.calls _ _ l0_1 false _ ?side1 ?side2 A10.out).mono ?_); (case side1 => exact sd_ (Kd.C_below HR0_1.out HB.out)); (case side2 => exact HC0_1.out); rintro e w' ⟨rfl, ⟨nd, rfl⟩⟩; refine ⟨_, rfl, ?_⟩; obtain ⟨hcz39_0, hcz39_1, hfz39_0, hfz39_1⟩ := cz2_ BK576; (try clear A10)) | (go_at_call 12; (with_reducible refine (warrantorref08_Large.calls _ _ l1_1 false _ ?side1 ?side2 A14.out).mono ?_); (case side1 => repeat (first | exact (Kd.C_below HR1_1.out HB_) | (with_reducible refine Kd.C_alloc ?_ _) | (with_reducible refine Kd.C_drewN ?_ _) | (with_reducible refine Kd.C_drew ?_))); (case side2 => exact HC1_1.out); rintro e w' ⟨rfl, ⟨nd, rfl⟩⟩) | (go_at_call 34; (with_reducible refine (warrantorref09_Two.calls k a0_0 _ _ l0_1 a1_0 _ _ l1_1 t579 _ ?side1 ?side2 ?side3 ?side4 A23.out).mono ?_); (case side1 => repeat (first | exact (Kd.C_below HR0_1.out HB_) | (with_reducible refine Kd.C_alloc ?_ _) | (with_reducible refine Kd.C_drewN ?_ _) | (with_reducible refine Kd.C_drew ?_))); (case side2 => exact HC0_1.out); (case side3 => repeat (first | exact (Kd.C_below HR1_1.out HB_) | (with_reducible refine Kd.C_alloc ?_ _) | (with_reducible refine Kd.C_drewN ?_ _) | (with_reducible refine Kd.C_drew ?_))); (case side4 => exact HC1_1.out); rintro e w40 ⟨rfl, hb⟩; have n_ := a_ (bb_ BK575 hb) (a_ (bb_ BK576 hb) (bs_ HB hb)); clear BK575 BK576 HB; obtain ⟨BK575, BK576, HB⟩ := n_; (try clear hb); (try clear hb2); (try clear hk); (try clear hi); obtain ⟨hcz41_0, hcz41_1, hfz41_0, hfz41_1⟩ := cz2_ BK575) | (go_at_call 28; (with_reducible refine (warrantorref09_Var.calls a0_0 _ _ l0_1 a3 false _ ?side1 ?side2 A26.out).mono ?_); (case side1 => exact sd_ (Kd.C_below HR0_1.out HB.out)); (case side2 => exact HC0_1.out); rintro e w42 ⟨rfl, hb⟩; have n_ := a_ (bb_ BK575 hb) (a_ (bb_ BK576 hb) (bs_ HB hb)); clear BK575 BK576 HB; obtain ⟨BK575, BK576, HB⟩ := n_; (try clear hb); (try clear hb2); (try clear hk); (try clear hi)))
      go_meet
      case rel => exact ⟨_, (true), (by first | rfl | (simp; done) | (simp [*]; done)), H', ⟨by first | omega | exact Nat.le_refl _⟩, ⟨by (with_reducible repeat (first | refine blk_drewN ?_ _ | refine blk_drew ?_ | refine blk_alloc ?_ _)); exact BK575.out⟩, ⟨by (with_reducible repeat (first | refine blk_drewN ?_ _ | refine blk_drew ?_ | refine blk_alloc ?_ _)); exact BK576.out⟩, ⟨HB_⟩⟩
    subst c27
    replace H := ps1_ H
    replace H := bd_ H
    obtain ⟨t581, A28, H⟩ := H
    (try dsimp only at H)
    have H' := Aside0.mk H
    clear H
    have hnb29 := NB575_576.out
    have hnc29 := NB576_575.out
    obtain ⟨hcz30_0, hcz30_1, hfz30_0, hfz30_1⟩ := cz2_ BK575
    go_wp2_with (first | ((with_reducible refine gate_callee (f := 12) rfl ?_); refine goesL_ (some 32) rfl rfl Try.func12 (by kernel_rfl) rfl #[.slice A0_1 l0_1.length c0_1] rfl MP_ ?_; (with_reducible refine (warrantorref08_Large.calls _ _ l0_1 false _ ?side1 ?side2 A10.out).mono ?_); (case side1 => exact sd_ (Kd.C_below HR0_1.out HB.out)); (case side2 => exact HC0_1.out); rintro e w' ⟨rfl, ⟨nd, rfl⟩⟩; refine ⟨_, rfl, ?_⟩; obtain ⟨hcz31_0, hcz31_1, hfz31_0, hfz31_1⟩ := cz2_ BK576; (try clear A10)) | (go_at_call 12; (with_reducible refine (warrantorref08_Large.calls _ _ l1_1 false _ ?side1 ?side2 A14.out).mono ?_); (case side1 => repeat (first | exact (Kd.C_below HR1_1.out HB_) | (with_reducible refine Kd.C_alloc ?_ _) | (with_reducible refine Kd.C_drewN ?_ _) | (with_reducible refine Kd.C_drew ?_))); (case side2 => exact HC1_1.out); rintro e w' ⟨rfl, ⟨nd, rfl⟩⟩) | (go_at_call 34; (with_reducible refine (warrantorref09_Two.calls k a0_0 _ _ l0_1 a1_0 _ _ l1_1 t579 _ ?side1 ?side2 ?side3 ?side4 A23.out).mono ?_); (case side1 => repeat (first | exact (Kd.C_below HR0_1.out HB_) | (with_reducible refine Kd.C_alloc ?_ _) | (with_reducible refine Kd.C_drewN ?_ _) | (with_reducible refine Kd.C_drew ?_))); (case side2 => exact HC0_1.out); (case side3 => repeat (first | exact (Kd.C_below HR1_1.out HB_) | (with_reducible refine Kd.C_alloc ?_ _) | (with_reducible refine Kd.C_drewN ?_ _) | (with_reducible refine Kd.C_drew ?_))); (case side4 => exact HC1_1.out); rintro e w32 ⟨rfl, hb⟩; have n_ := a_ (bb_ BK575 hb) (a_ (bb_ BK576 hb) (bs_ HB hb)); clear BK575 BK576 HB; obtain ⟨BK575, BK576, HB⟩ := n_; (try clear hb); (try clear hb2); (try clear hk); (try clear hi); obtain ⟨hcz33_0, hcz33_1, hfz33_0, hfz33_1⟩ := cz2_ BK575) | (go_at_call 28; (with_reducible refine (warrantorref09_Var.calls a0_0 _ _ l0_1 a3 true _ ?side1 ?side2 A26.out).mono ?_); (case side1 => exact sd_ (Kd.C_below HR0_1.out HB.out)); (case side2 => exact HC0_1.out); rintro e w34 ⟨rfl, hb⟩; have n_ := a_ (bb_ BK575 hb) (a_ (bb_ BK576 hb) (bs_ HB hb)); clear BK575 BK576 HB; obtain ⟨BK575, BK576, HB⟩ := n_; (try clear hb); (try clear hb2); (try clear hk); (try clear hi); obtain ⟨hcz35_0, hcz35_1, hfz35_0, hfz35_1⟩ := cz2_ BK575) | (go_at_call 29; (with_reducible refine (warrantorref09_Or0.calls a0_0 _ _ l0_1 a4 t581 _ ?side1 ?side2 A28.out).mono ?_); (case side1 => exact sd_ (Kd.C_below HR0_1.out HB.out)); (case side2 => exact HC0_1.out); rintro e w36 ⟨rfl, hb⟩; have n_ := a_ (bb_ BK575 hb) (a_ (bb_ BK576 hb) (bs_ HB hb)); clear BK575 BK576 HB; obtain ⟨BK575, BK576, HB⟩ := n_; (try clear hb); (try clear hb2); (try clear hk); (try clear hi)))
    go_meet
    case rel => exact ⟨_, (!t581), (by first | rfl | (simp; done) | (simp [*]; done)), H', ⟨by first | omega | exact Nat.le_refl _⟩, ⟨by (with_reducible repeat (first | refine blk_drewN ?_ _ | refine blk_drew ?_ | refine blk_alloc ?_ _)); exact BK575.out⟩, ⟨by (with_reducible repeat (first | refine blk_drewN ?_ _ | refine blk_drew ?_ | refine blk_alloc ?_ _)); exact BK576.out⟩, ⟨HB_⟩⟩
  case rest =>
    clear HC7
    try clear c1
    try clear c2
    try clear p2
    try clear c3
    try clear c4
    try clear c11
    try clear c12
    try clear c15
    try clear c16
    try clear c19
    try clear c19b0
    try clear c19b1
    try clear c20
    try clear c24
    try clear c24b0
    try clear c24b1
    try clear c25
    try clear c25b0
    try clear c25b1
    try clear c27
    try clear c29
    try clear c37
    try clear c43
    try clear c48
    try clear hcz13_0
    try clear hcz13_1
    try clear hcz17_0
    try clear hcz17_1
    try clear hcz18_0
    try clear hcz18_1
    try clear hcz21_0
    try clear hcz21_1
    try clear hcz22_0
    try clear hcz22_1
    try clear hcz30_0
    try clear hcz30_1
    try clear hcz31_0
    try clear hcz31_1
    try clear hcz33_0
    try clear hcz33_1
    try clear hcz35_0
    try clear hcz35_1
    try clear hcz38_0
    try clear hcz38_1
    try clear hcz39_0
    try clear hcz39_1
    try clear hcz41_0
    try clear hcz41_1
    try clear hcz44_0
    try clear hcz44_1
    try clear hcz45_0
    try clear hcz45_1
    try clear hcz47_0
    try clear hcz47_1
    try clear hcz49_0
    try clear hcz49_1
    try clear hcz50_0
    try clear hcz50_1
    try clear hfz13_0
    try clear hfz13_1
    try clear hfz17_0
    try clear hfz17_1
    try clear hfz18_0
    try clear hfz18_1
    try clear hfz21_0
    try clear hfz21_1
    try clear hfz22_0
    try clear hfz22_1
    try clear hfz30_0
    try clear hfz30_1
    try clear hfz31_0
    try clear hfz31_1
    try clear hfz33_0
    try clear hfz33_1
    try clear hfz35_0
    try clear hfz35_1
    try clear hfz38_0
    try clear hfz38_1
    try clear hfz39_0
    try clear hfz39_1
    try clear hfz41_0
    try clear hfz41_1
    try clear hfz44_0
    try clear hfz44_1
    try clear hfz45_0
    try clear hfz45_1
    try clear hfz47_0
    try clear hfz47_1
    try clear hfz49_0
    try clear hfz49_1
    try clear hfz50_0
    try clear hfz50_1
    obtain ⟨kq, x67_6, rfl, HA, HJ6, BK575, BK576, HB⟩ := hcut
    cases kq with
    | zero => exact absurd HA.out (by simp [warrantorlaw09_ZoneHas_v0.j0])
    | succ kj6 =>
      have H := HA.out
      clear HA
      simp only [warrantorlaw09_ZoneHas_v0.j0] at H
      by_cases c52 : x67_6 = true
      · subst c52
        replace H := ps1_ H
        replace H := bd_ H
        obtain ⟨t582, A53, H⟩ := H
        (try dsimp only at H)
        obtain rfl := Option.some.inj H
        go_wp2_with (first | ((with_reducible refine gate_callee (f := 22) rfl ?_); refine goesL_ (some 68) rfl rfl Try.func22 (by kernel_rfl) rfl #[] rfl MP_ ?_; (with_reducible refine (warrantorlaw09_lives.calls kj6  t582 _ A53.out).mono ?_); rintro e w54 ⟨rfl, hb⟩; refine ⟨_, rfl, ?_⟩; have n_ := a_ (bb_ BK575 hb) (a_ (bb_ BK576 hb) (bs_ HB hb)); clear BK575 BK576 HB; obtain ⟨BK575, BK576, HB⟩ := n_; (try clear hb); (try clear hb2); (try clear hk); (try clear hi)))
        go_ret
        exact ⟨by first | rfl | (simp [errW_none, errW_some] <;> rfl) | (simp [*, errW_none, errW_some] <;> rfl), HB_⟩
      replace c52 := Bool.eq_false_iff.mpr c52
      subst c52
      replace H := ng1_ H
      replace H := bd_ H
      obtain ⟨⟨t583, t584, t587⟩, A55, H⟩ := H
      (try dsimp only at H)
      replace H := bd_ H
      obtain ⟨⟨t589, t590, t593⟩, A56, H⟩ := H
      (try dsimp only at H)
      replace H := bd_ H
      obtain ⟨⟨t595, t596, t599⟩, A57, H⟩ := H
      (try dsimp only at H)
      replace H := bd_ H
      obtain ⟨⟨t601, t602, t605⟩, A58, H⟩ := H
      (try dsimp only at H)
      replace H := bd_ H
      obtain ⟨t607, A59, H⟩ := H
      (try dsimp only at H)
      replace H := bd_ H
      obtain ⟨t608, A60, H⟩ := H
      (try dsimp only at H)
      replace H := bd_ H
      obtain ⟨t609, A61, H⟩ := H
      (try dsimp only at H)
      replace H := yes_ H
      obtain ⟨c62, H⟩ := H
      subst c62
      replace H := bd_ H
      obtain ⟨t610, A63, H⟩ := H
      (try dsimp only at H)
      replace H := yes_ H
      obtain ⟨c64, H⟩ := H
      subst c64
      by_cases c65 : (t610 != t608) = true
      · rw [if_pos c65] at H
        exact absurd H (by simp)
      rw [if_neg c65] at H
      have c65b0 : (t610 != t608) = false := by simpa using c65
      (try (have c65b1 : decide (t610 = t608) = true := by simpa using c65))
      (try (have c65b2 : (t610 == t608) = true := by simpa using c65))
      clear c65
      replace H := bd_ H
      obtain ⟨t611, A66, H⟩ := H
      (try dsimp only at H)
      replace H := yes_ H
      obtain ⟨c67, H⟩ := H
      subst c67
      replace H := bd_ H
      obtain ⟨t612, A68, H⟩ := H
      (try dsimp only at H)
      replace H := yes_ H
      obtain ⟨c69, H⟩ := H
      subst c69
      replace H := bd_ H
      obtain ⟨t613, A70, H⟩ := H
      (try dsimp only at H)
      replace H := bd_ H
      obtain ⟨t614, A71, H⟩ := H
      (try dsimp only at H)
      replace H := bd_ H
      obtain ⟨t615, A72, H⟩ := H
      (try dsimp only at H)
      by_cases c73 : (t613 != (decide ((wrap64 (t614 - t615)) ≤ a5))) = true
      · rw [if_pos c73] at H
        exact absurd H (by simp)
      rw [if_neg c73] at H
      have c73b0 : (t613 != (decide ((wrap64 (t614 - t615)) ≤ a5))) = false := by simpa using c73
      (try (have c73b1 : decide (t613 = (decide ((wrap64 (t614 - t615)) ≤ a5))) = true := by simpa using c73))
      (try (have c73b2 : (t613 == (decide ((wrap64 (t614 - t615)) ≤ a5))) = true := by simpa using c73))
      clear c73
      replace H := bd_ H
      obtain ⟨⟨t616, t617, t620⟩, A74, H⟩ := H
      (try dsimp only at H)
      replace H := bd_ H
      obtain ⟨⟨t622, t623, t624⟩, A75, H⟩ := H
      (try dsimp only at H)
      replace H := bd_ H
      obtain ⟨t626, A76, H⟩ := H
      (try dsimp only at H)
      replace H := bd_ H
      obtain ⟨t627, A77, H⟩ := H
      (try dsimp only at H)
      replace H := bd_ H
      obtain ⟨t628, A78, H⟩ := H
      (try dsimp only at H)
      replace H := bd_ H
      obtain ⟨⟨t629, t630, t633⟩, A79, H⟩ := H
      (try dsimp only at H)
      replace H := bd_ H
      obtain ⟨⟨t635, t636⟩, A80, H⟩ := H
      (try dsimp only at H)
      replace H := yes_ H
      obtain ⟨c81, H⟩ := H
      have c81b0 : (t622 == t635 && (t623 == t636)) = true := c81
      (try (have c81b1 : decide (t622 = t635 && (t623 == t636)) = true := by simpa using c81))
      (try (have c81b2 : (t622 == t635 && (t623 == t636)) = true := by simpa using c81))
      clear c81
      replace H := bd_ H
      obtain ⟨t637, A82, H⟩ := H
      (try dsimp only at H)
      replace H := bd_ H
      obtain ⟨t638, A83, H⟩ := H
      (try dsimp only at H)
      replace H := bd_ H
      obtain ⟨t641, A84, H⟩ := H
      (try dsimp only at H)
      replace H := yes_ H
      obtain ⟨c85, H⟩ := H
      subst c85
      replace H := bd_ H
      obtain ⟨t642, A86, H⟩ := H
      (try dsimp only at H)
      replace H := bd_ H
      obtain ⟨t645, A87, H⟩ := H
      (try dsimp only at H)
      replace H := bd_ H
      obtain ⟨t646, A88, H⟩ := H
      (try dsimp only at H)
      obtain rfl := Option.some.inj H
      have hnb89 := NB575_576.out
      have hnc89 := NB576_575.out
      obtain ⟨hcz90_0, hcz90_1, hfz90_0, hfz90_1⟩ := cz2_ BK575
      obtain ⟨hcz91_0, hcz91_1, hfz91_0, hfz91_1⟩ := cz2_ BK576
      try go_wp2_with (first | ((with_reducible refine gate_callee (f := 37) rfl ?_); refine goesL_ (some 72) rfl rfl Try.func37 (by kernel_rfl) rfl #[.agg #[.int .i64 a0_0, .slice A0_1 l0_1.length c0_1], .agg #[.int .i64 a1_0, .slice A1_1 l1_1.length c1_1]] rfl MP_ ?_; (with_reducible refine (zone_Meet.calls kj6 a0_0 _ _ l0_1 a1_0 _ _ l1_1 t583 t584 t587 _ ?side1 ?side2 ?side3 ?side4 A55.out).mono ?_); (case side1 => exact sd_ (Kd.C_below HR0_1.out HB.out)); (case side2 => exact HC0_1.out); (case side3 => exact sd_ (Kd.C_below HR1_1.out HB.out)); (case side4 => exact HC1_1.out); rintro e w92 ⟨v585, rfl, ho0, hb⟩; refine ⟨_, rfl, ?_⟩; have n_ := a_ (Aside0.mk (Kd.R_lower ho0 (below_size HB_))) (a_ (bb_ BK575 hb) (a_ (bb_ BK576 hb) (bs_ HB hb))); clear BK575 BK576 HB; obtain ⟨HO586, BK575, BK576, HB⟩ := n_; (try clear hb); (try clear hb2); (try clear hk); (try clear hi); (try clear ho0)) | ((with_reducible refine gate_dst (N := 13) rfl ?_); (try (refine gate_guard (by rfl) ?_; dsimp only)); refine bx_ (N := 13) (cs := #[.int .i64 0, .slice none 0 0]) (t := 24) ?_; intro gb588 hg w93 hbox hb; have n_ := a_ (rb_ HO586 hb) (a_ (bb_ BK575 hb) (a_ (bb_ BK576 hb) (a_ (bs_ HB hb) (a_ (Aside0.mk hbox) (a_ (gs_ HB hg) (a_ (gs_ HB hg) (a_ (nl_ BK575 hg) (a_ (ng_ BK575 hg) (a_ (nl_ BK576 hg) (ng_ BK576 hg)))))))))); clear HO586 BK575 BK576 HB; obtain ⟨HO586, BK575, BK576, HB, BK588, GW588, GE588, NB575_588, NB588_575, NB576_588, NB588_576⟩ := n_; clear hb hbox hg; have hnb94 := NB588_575.out; have hnc94 := NB575_588.out; have hnb95 := NB588_576.out; have hnc95 := NB576_588.out; obtain ⟨hcz96_0, hcz96_1, hfz96_0, hfz96_1⟩ := cz2_ BK588; obtain ⟨Ao97, co97, eo97⟩ := Kd.R_slice HO586.out; subst eo97; obtain ⟨hcz98_0, hcz98_1, hfz98_0, hfz98_1⟩ := cz2_ BK575; obtain ⟨hcz99_0, hcz99_1, hfz99_0, hfz99_1⟩ := cz2_ BK576) | ((with_reducible refine gate_callee (f := 35) rfl ?_); refine goesL_ (some 78) rfl rfl Try.func35 (by kernel_rfl) rfl #[.agg #[.int .i64 a0_0, .slice A0_1 l0_1.length c0_1], .agg #[.int .i64 a1_0, .slice A1_1 l1_1.length c1_1]] rfl MP_ ?_; (with_reducible refine (zone_Join.calls kj6 a0_0 _ _ l0_1 a1_0 _ _ l1_1 t589 t590 t593 _ ?side1 ?side2 ?side3 ?side4 A56.out).mono ?_); (case side1 => exact Kd.C_below HR0_1.out HB_); (case side2 => exact HC0_1.out); (case side3 => exact Kd.C_below HR1_1.out HB_); (case side4 => exact HC1_1.out); rintro e w100 ⟨v591, rfl, ho0, hb⟩; refine ⟨_, rfl, ?_⟩; have n_ := a_ (Aside0.mk (Kd.R_elder' (rd_ (rf2_ HO586 BK588 (.int .i64 t583) (.slice Ao97 t584.length co97))) (Kd.R_base ho0) hb)) (a_ (Aside0.mk (Kd.R_lower (Kd.R_new' ho0 (Kd.R_lt (rd_ (rf2_ HO586 BK588 (.int .i64 t583) (.slice Ao97 t584.length co97))))) (below_size HB_))) (a_ (bc_ #[.int .i64 a0_0, .slice A0_1 l0_1.length c0_1] 24 BK575 hb) (a_ (bc_ #[.int .i64 a1_0, .slice A1_1 l1_1.length c1_1] 24 BK576 hb) (a_ (bc_ #[.int .i64 t583, .slice Ao97 t584.length co97] 24 BK588 hb) (bs_ HB hb))))); clear HO586 BK575 BK576 BK588 HB; obtain ⟨HO586, HO592, BK575, BK576, BK588, HB⟩ := n_; (try clear hb); (try clear hb2); (try clear hk); (try clear hi); (try clear ho0)) | ((with_reducible refine gate_dst (N := 15) rfl ?_); (try (refine gate_guard (by rfl) ?_; dsimp only)); refine bx_ (N := 15) (cs := #[.int .i64 0, .slice none 0 0]) (t := 24) ?_; intro gb594 hg w101 hbox hb; have n_ := a_ (rb_ HO586 hb) (a_ (rb_ HO592 hb) (a_ (bb_ BK575 hb) (a_ (bb_ BK576 hb) (a_ (bb_ BK588 hb) (a_ (bs_ HB hb) (a_ (Aside0.mk hbox) (a_ (gs_ HB hg) (a_ (gs_ HB hg) (a_ (nl_ BK575 hg) (a_ (ng_ BK575 hg) (a_ (nl_ BK576 hg) (a_ (ng_ BK576 hg) (a_ (nl_ BK588 hg) (ng_ BK588 hg)))))))))))))); clear HO586 HO592 BK575 BK576 BK588 HB; obtain ⟨HO586, HO592, BK575, BK576, BK588, HB, BK594, GW594, GE594, NB575_594, NB594_575, NB576_594, NB594_576, NB588_594, NB594_588⟩ := n_; clear hb hbox hg; have hnb102 := NB594_575.out; have hnc102 := NB575_594.out; have hnb103 := NB594_576.out; have hnc103 := NB576_594.out; have hnb104 := NB594_588.out; have hnc104 := NB588_594.out; obtain ⟨hcz105_0, hcz105_1, hfz105_0, hfz105_1⟩ := cz2_ BK594; obtain ⟨Ao106, co106, eo106⟩ := Kd.R_slice HO592.out; subst eo106; obtain ⟨hcz107_0, hcz107_1, hfz107_0, hfz107_1⟩ := cz2_ BK575; obtain ⟨hcz108_0, hcz108_1, hfz108_0, hfz108_1⟩ := cz2_ BK576) | ((with_reducible refine gate_callee (f := 38) rfl ?_); refine goesL_ (some 84) rfl rfl Try.func38 (by kernel_rfl) rfl #[.agg #[.int .i64 a0_0, .slice A0_1 l0_1.length c0_1], .agg #[.int .i64 a1_0, .slice A1_1 l1_1.length c1_1]] rfl MP_ ?_; (with_reducible refine (zone_Widen.calls kj6 a0_0 _ _ l0_1 a1_0 _ _ l1_1 t595 t596 t599 _ ?side1 ?side2 ?side3 ?side4 A57.out).mono ?_); (case side1 => exact Kd.C_below HR0_1.out HB_); (case side2 => exact HC0_1.out); (case side3 => exact Kd.C_below HR1_1.out HB_); (case side4 => exact HC1_1.out); rintro e w109 ⟨v597, rfl, ho0, hb⟩; refine ⟨_, rfl, ?_⟩; have n_ := a_ (Aside0.mk (Kd.R_elder' (rd_ (rf2_ HO586 BK594 (.int .i64 t589) (.slice Ao106 t590.length co106))) (Kd.R_base ho0) hb)) (a_ (Aside0.mk (Kd.R_elder' (rd_ (rf2_ HO592 BK594 (.int .i64 t589) (.slice Ao106 t590.length co106))) (Kd.R_base ho0) hb)) (a_ (Aside0.mk (Kd.R_lower (Kd.R_new' (Kd.R_new' ho0 (Kd.R_lt (rd_ (rf2_ HO586 BK594 (.int .i64 t589) (.slice Ao106 t590.length co106))))) (Kd.R_lt (rd_ (rf2_ HO592 BK594 (.int .i64 t589) (.slice Ao106 t590.length co106))))) (below_size HB_))) (a_ (bc_ #[.int .i64 a0_0, .slice A0_1 l0_1.length c0_1] 24 BK575 hb) (a_ (bc_ #[.int .i64 a1_0, .slice A1_1 l1_1.length c1_1] 24 BK576 hb) (a_ (bc_ #[.int .i64 t583, .slice Ao97 t584.length co97] 24 BK588 hb) (a_ (bc_ #[.int .i64 t589, .slice Ao106 t590.length co106] 24 BK594 hb) (bs_ HB hb))))))); clear HO586 HO592 BK575 BK576 BK588 BK594 HB; obtain ⟨HO586, HO592, HO598, BK575, BK576, BK588, BK594, HB⟩ := n_; (try clear hb); (try clear hb2); (try clear hk); (try clear hi); (try clear ho0)) | ((with_reducible refine gate_dst (N := 17) rfl ?_); (try (refine gate_guard (by rfl) ?_; dsimp only)); refine bx_ (N := 17) (cs := #[.int .i64 0, .slice none 0 0]) (t := 24) ?_; intro gb600 hg w110 hbox hb; have n_ := a_ (rb_ HO586 hb) (a_ (rb_ HO592 hb) (a_ (rb_ HO598 hb) (a_ (bb_ BK575 hb) (a_ (bb_ BK576 hb) (a_ (bb_ BK588 hb) (a_ (bb_ BK594 hb) (a_ (bs_ HB hb) (a_ (Aside0.mk hbox) (a_ (gs_ HB hg) (a_ (gs_ HB hg) (a_ (nl_ BK575 hg) (a_ (ng_ BK575 hg) (a_ (nl_ BK576 hg) (a_ (ng_ BK576 hg) (a_ (nl_ BK588 hg) (a_ (ng_ BK588 hg) (a_ (nl_ BK594 hg) (ng_ BK594 hg)))))))))))))))))); clear HO586 HO592 HO598 BK575 BK576 BK588 BK594 HB; obtain ⟨HO586, HO592, HO598, BK575, BK576, BK588, BK594, HB, BK600, GW600, GE600, NB575_600, NB600_575, NB576_600, NB600_576, NB588_600, NB600_588, NB594_600, NB600_594⟩ := n_; clear hb hbox hg; have hnb111 := NB600_575.out; have hnc111 := NB575_600.out; have hnb112 := NB600_576.out; have hnc112 := NB576_600.out; have hnb113 := NB600_588.out; have hnc113 := NB588_600.out; have hnb114 := NB600_594.out; have hnc114 := NB594_600.out; obtain ⟨hcz115_0, hcz115_1, hfz115_0, hfz115_1⟩ := cz2_ BK600; obtain ⟨Ao116, co116, eo116⟩ := Kd.R_slice HO598.out; subst eo116; obtain ⟨hcz117_0, hcz117_1, hfz117_0, hfz117_1⟩ := cz2_ BK575) | ((with_reducible refine gate_callee (f := 23) rfl ?_); refine goesL_ (some 92) rfl rfl Try.func23 (by kernel_rfl) rfl #[.agg #[.int .i64 a0_0, .slice A0_1 l0_1.length c0_1], .int .i64 a3, .int .i64 a4, .int .i64 a5] rfl MP_ ?_; (with_reducible refine (zone_Limit.calls kj6 a0_0 _ _ l0_1 a3 a4 a5 t601 t602 t605 _ ?side1 ?side2 A58.out).mono ?_); (case side1 => exact Kd.C_below HR0_1.out HB_); (case side2 => exact HC0_1.out); rintro e w118 ⟨v603, rfl, ho0, hb⟩; refine ⟨_, rfl, ?_⟩; have n_ := a_ (Aside0.mk (Kd.R_elder' (rd_ (rf2_ HO586 BK600 (.int .i64 t595) (.slice Ao116 t596.length co116))) (Kd.R_base ho0) hb)) (a_ (Aside0.mk (Kd.R_elder' (rd_ (rf2_ HO592 BK600 (.int .i64 t595) (.slice Ao116 t596.length co116))) (Kd.R_base ho0) hb)) (a_ (Aside0.mk (Kd.R_elder' (rd_ (rf2_ HO598 BK600 (.int .i64 t595) (.slice Ao116 t596.length co116))) (Kd.R_base ho0) hb)) (a_ (Aside0.mk (Kd.R_lower (Kd.R_new' (Kd.R_new' (Kd.R_new' ho0 (Kd.R_lt (rd_ (rf2_ HO586 BK600 (.int .i64 t595) (.slice Ao116 t596.length co116))))) (Kd.R_lt (rd_ (rf2_ HO592 BK600 (.int .i64 t595) (.slice Ao116 t596.length co116))))) (Kd.R_lt (rd_ (rf2_ HO598 BK600 (.int .i64 t595) (.slice Ao116 t596.length co116))))) (below_size HB_))) (a_ (bc_ #[.int .i64 a0_0, .slice A0_1 l0_1.length c0_1] 24 BK575 hb) (a_ (bc_ #[.int .i64 a1_0, .slice A1_1 l1_1.length c1_1] 24 BK576 hb) (a_ (bc_ #[.int .i64 t583, .slice Ao97 t584.length co97] 24 BK588 hb) (a_ (bc_ #[.int .i64 t589, .slice Ao106 t590.length co106] 24 BK594 hb) (a_ (bc_ #[.int .i64 t595, .slice Ao116 t596.length co116] 24 BK600 hb) (bs_ HB hb))))))))); clear HO586 HO592 HO598 BK575 BK576 BK588 BK594 BK600 HB; obtain ⟨HO586, HO592, HO598, HO604, BK575, BK576, BK588, BK594, BK600, HB⟩ := n_; (try clear hb); (try clear hb2); (try clear hk); (try clear hi); (try clear ho0)) | ((with_reducible refine gate_dst (N := 19) rfl ?_); (try (refine gate_guard (by rfl) ?_; dsimp only)); refine bx_ (N := 19) (cs := #[.int .i64 0, .slice none 0 0]) (t := 24) ?_; intro gb606 hg w119 hbox hb; have n_ := a_ (rb_ HO586 hb) (a_ (rb_ HO592 hb) (a_ (rb_ HO598 hb) (a_ (rb_ HO604 hb) (a_ (bb_ BK575 hb) (a_ (bb_ BK576 hb) (a_ (bb_ BK588 hb) (a_ (bb_ BK594 hb) (a_ (bb_ BK600 hb) (a_ (bs_ HB hb) (a_ (Aside0.mk hbox) (a_ (gs_ HB hg) (a_ (gs_ HB hg) (a_ (nl_ BK575 hg) (a_ (ng_ BK575 hg) (a_ (nl_ BK576 hg) (a_ (ng_ BK576 hg) (a_ (nl_ BK588 hg) (a_ (ng_ BK588 hg) (a_ (nl_ BK594 hg) (a_ (ng_ BK594 hg) (a_ (nl_ BK600 hg) (ng_ BK600 hg)))))))))))))))))))))); clear HO586 HO592 HO598 HO604 BK575 BK576 BK588 BK594 BK600 HB; obtain ⟨HO586, HO592, HO598, HO604, BK575, BK576, BK588, BK594, BK600, HB, BK606, GW606, GE606, NB575_606, NB606_575, NB576_606, NB606_576, NB588_606, NB606_588, NB594_606, NB606_594, NB600_606, NB606_600⟩ := n_; clear hb hbox hg; have hnb120 := NB606_575.out; have hnc120 := NB575_606.out; have hnb121 := NB606_576.out; have hnc121 := NB576_606.out; have hnb122 := NB606_588.out; have hnc122 := NB588_606.out; have hnb123 := NB606_594.out; have hnc123 := NB594_606.out; have hnb124 := NB606_600.out; have hnc124 := NB600_606.out; obtain ⟨hcz125_0, hcz125_1, hfz125_0, hfz125_1⟩ := cz2_ BK606; obtain ⟨Ao126, co126, eo126⟩ := Kd.R_slice HO604.out; subst eo126))
      have n0_ : Aside0 (Kd.R (Kd.int .i64) 3 ((w119.setCell ⟨gb606, 0, none⟩ (.int .i64 t601)).setCell ⟨gb606, 1, none⟩ (.slice Ao126 t602.length co126)) w.heap.size (fun k_ => some k_ ≠ (.slice Ao106 t590.length co106 : Value).ownBlock ∧ some k_ ≠ (.slice Ao116 t596.length co116 : Value).ownBlock ∧ some k_ ≠ (.slice Ao126 t602.length co126 : Value).ownBlock) (.slice Ao97 t584.length co97) t584) := ⟨by (with_reducible repeat (first | apply Kd.R_alloc | apply Kd.R_drewN | apply Kd.R_drew)); exact Kd.R_mono (Kd.R_far (p := ⟨gb606, 1, none⟩) (Kd.R_far (p := ⟨gb606, 0, none⟩) (Kd.R_types HO586.out BK606.out (by decide)) (fun _ hk => hk.2) (.int .i64 t601)) (fun _ hk => hk.2) (.slice Ao126 t602.length co126)) (fun _ hk => ⟨hk.1.1.1.2, ⟨hk.1.1.2, hk.1.2⟩⟩)⟩
      have n1_ : Aside0 (Kd.R (Kd.int .i64) 3 ((w119.setCell ⟨gb606, 0, none⟩ (.int .i64 t601)).setCell ⟨gb606, 1, none⟩ (.slice Ao126 t602.length co126)) w.heap.size (fun k_ => some k_ ≠ (.slice Ao97 t584.length co97 : Value).ownBlock ∧ some k_ ≠ (.slice Ao116 t596.length co116 : Value).ownBlock ∧ some k_ ≠ (.slice Ao126 t602.length co126 : Value).ownBlock) (.slice Ao106 t590.length co106) t590) := ⟨by (with_reducible repeat (first | apply Kd.R_alloc | apply Kd.R_drewN | apply Kd.R_drew)); exact Kd.R_mono (Kd.R_far (p := ⟨gb606, 1, none⟩) (Kd.R_far (p := ⟨gb606, 0, none⟩) (Kd.R_types HO592.out BK606.out (by decide)) (fun _ hk => hk.2) (.int .i64 t601)) (fun _ hk => hk.2) (.slice Ao126 t602.length co126)) (fun _ hk => ⟨hk.1.1.1.2, ⟨hk.1.1.2, hk.1.2⟩⟩)⟩
      have n2_ : Aside0 (Kd.R (Kd.int .i64) 3 ((w119.setCell ⟨gb606, 0, none⟩ (.int .i64 t601)).setCell ⟨gb606, 1, none⟩ (.slice Ao126 t602.length co126)) w.heap.size (fun k_ => some k_ ≠ (.slice Ao97 t584.length co97 : Value).ownBlock ∧ some k_ ≠ (.slice Ao106 t590.length co106 : Value).ownBlock ∧ some k_ ≠ (.slice Ao126 t602.length co126 : Value).ownBlock) (.slice Ao116 t596.length co116) t596) := ⟨by (with_reducible repeat (first | apply Kd.R_alloc | apply Kd.R_drewN | apply Kd.R_drew)); exact Kd.R_mono (Kd.R_far (p := ⟨gb606, 1, none⟩) (Kd.R_far (p := ⟨gb606, 0, none⟩) (Kd.R_types HO598.out BK606.out (by decide)) (fun _ hk => hk.2) (.int .i64 t601)) (fun _ hk => hk.2) (.slice Ao126 t602.length co126)) (fun _ hk => ⟨hk.1.1.1.2, ⟨hk.1.1.2, hk.1.2⟩⟩)⟩
      have n3_ : Aside0 (Kd.R (Kd.int .i64) 3 ((w119.setCell ⟨gb606, 0, none⟩ (.int .i64 t601)).setCell ⟨gb606, 1, none⟩ (.slice Ao126 t602.length co126)) w.heap.size (fun k_ => some k_ ≠ (.slice Ao97 t584.length co97 : Value).ownBlock ∧ some k_ ≠ (.slice Ao106 t590.length co106 : Value).ownBlock ∧ some k_ ≠ (.slice Ao116 t596.length co116 : Value).ownBlock) (.slice Ao126 t602.length co126) t602) := ⟨by (with_reducible repeat (first | apply Kd.R_alloc | apply Kd.R_drewN | apply Kd.R_drew)); exact Kd.R_mono (Kd.R_far (p := ⟨gb606, 1, none⟩) (Kd.R_far (p := ⟨gb606, 0, none⟩) (Kd.R_types HO604.out BK606.out (by decide)) (fun _ hk => hk.2) (.int .i64 t601)) (fun _ hk => hk.2) (.slice Ao126 t602.length co126)) (fun _ hk => ⟨hk.1.1.1.2, ⟨hk.1.1.2, hk.1.2⟩⟩)⟩
      have n4_ : Aside0 (((w119.setCell ⟨gb606, 0, none⟩ (.int .i64 t601)).setCell ⟨gb606, 1, none⟩ (.slice Ao126 t602.length co126)).heap[gb575]? = some (.cells #[.int .i64 a0_0, .slice A0_1 l0_1.length c0_1] 24 (0, 0))) := ⟨by (with_reducible repeat (first | refine blk_drewN ?_ _ | refine blk_drew ?_ | refine blk_alloc ?_ _)); refine blk_far ?_ NB575_606.out _; (with_reducible repeat (first | refine blk_drewN ?_ _ | refine blk_drew ?_ | refine blk_alloc ?_ _)); refine blk_far ?_ NB575_606.out _; (with_reducible repeat (first | refine blk_drewN ?_ _ | refine blk_drew ?_ | refine blk_alloc ?_ _)); exact BK575.out⟩
      have n5_ : Aside0 (((w119.setCell ⟨gb606, 0, none⟩ (.int .i64 t601)).setCell ⟨gb606, 1, none⟩ (.slice Ao126 t602.length co126)).heap[gb576]? = some (.cells #[.int .i64 a1_0, .slice A1_1 l1_1.length c1_1] 24 (0, 0))) := ⟨by (with_reducible repeat (first | refine blk_drewN ?_ _ | refine blk_drew ?_ | refine blk_alloc ?_ _)); refine blk_far ?_ NB576_606.out _; (with_reducible repeat (first | refine blk_drewN ?_ _ | refine blk_drew ?_ | refine blk_alloc ?_ _)); refine blk_far ?_ NB576_606.out _; (with_reducible repeat (first | refine blk_drewN ?_ _ | refine blk_drew ?_ | refine blk_alloc ?_ _)); exact BK576.out⟩
      have n6_ : Aside0 (((w119.setCell ⟨gb606, 0, none⟩ (.int .i64 t601)).setCell ⟨gb606, 1, none⟩ (.slice Ao126 t602.length co126)).heap[gb588]? = some (.cells #[.int .i64 t583, .slice Ao97 t584.length co97] 24 (0, 0))) := ⟨by (with_reducible repeat (first | refine blk_drewN ?_ _ | refine blk_drew ?_ | refine blk_alloc ?_ _)); refine blk_far ?_ NB588_606.out _; (with_reducible repeat (first | refine blk_drewN ?_ _ | refine blk_drew ?_ | refine blk_alloc ?_ _)); refine blk_far ?_ NB588_606.out _; (with_reducible repeat (first | refine blk_drewN ?_ _ | refine blk_drew ?_ | refine blk_alloc ?_ _)); exact BK588.out⟩
      have n7_ : Aside0 (((w119.setCell ⟨gb606, 0, none⟩ (.int .i64 t601)).setCell ⟨gb606, 1, none⟩ (.slice Ao126 t602.length co126)).heap[gb594]? = some (.cells #[.int .i64 t589, .slice Ao106 t590.length co106] 24 (0, 0))) := ⟨by (with_reducible repeat (first | refine blk_drewN ?_ _ | refine blk_drew ?_ | refine blk_alloc ?_ _)); refine blk_far ?_ NB594_606.out _; (with_reducible repeat (first | refine blk_drewN ?_ _ | refine blk_drew ?_ | refine blk_alloc ?_ _)); refine blk_far ?_ NB594_606.out _; (with_reducible repeat (first | refine blk_drewN ?_ _ | refine blk_drew ?_ | refine blk_alloc ?_ _)); exact BK594.out⟩
      have n8_ : Aside0 (((w119.setCell ⟨gb606, 0, none⟩ (.int .i64 t601)).setCell ⟨gb606, 1, none⟩ (.slice Ao126 t602.length co126)).heap[gb600]? = some (.cells #[.int .i64 t595, .slice Ao116 t596.length co116] 24 (0, 0))) := ⟨by (with_reducible repeat (first | refine blk_drewN ?_ _ | refine blk_drew ?_ | refine blk_alloc ?_ _)); refine blk_far ?_ NB600_606.out _; (with_reducible repeat (first | refine blk_drewN ?_ _ | refine blk_drew ?_ | refine blk_alloc ?_ _)); refine blk_far ?_ NB600_606.out _; (with_reducible repeat (first | refine blk_drewN ?_ _ | refine blk_drew ?_ | refine blk_alloc ?_ _)); exact BK600.out⟩
      have n9_ : Aside0 (((w119.setCell ⟨gb606, 0, none⟩ (.int .i64 t601)).setCell ⟨gb606, 1, none⟩ (.slice Ao126 t602.length co126)).heap[gb606]? = some (.cells #[.int .i64 t601, .slice Ao126 t602.length co126] 24 (0, 0))) := ⟨by (with_reducible repeat (first | refine blk_drewN ?_ _ | refine blk_drew ?_ | refine blk_alloc ?_ _)); refine blk_put (cs := #[.int .i64 t601, .slice none 0 0]) ?_ 1 _ rfl; (with_reducible repeat (first | refine blk_drewN ?_ _ | refine blk_drew ?_ | refine blk_alloc ?_ _)); refine blk_put (cs := #[.int .i64 0, .slice none 0 0]) ?_ 0 _ rfl; (with_reducible repeat (first | refine blk_drewN ?_ _ | refine blk_drew ?_ | refine blk_alloc ?_ _)); exact BK606.out⟩
      have n10_ : Aside0 (Below w.heap.size w ((w119.setCell ⟨gb606, 0, none⟩ (.int .i64 t601)).setCell ⟨gb606, 1, none⟩ (.slice Ao126 t602.length co126))) := ⟨HB_⟩
      (try clear HO586)
      (try clear HO592)
      (try clear HO598)
      (try clear HO604)
      (try clear BK575)
      (try clear BK576)
      (try clear BK588)
      (try clear BK594)
      (try clear BK600)
      (try clear BK606)
      (try clear HB)
      generalize ((w119.setCell ⟨gb606, 0, none⟩ (.int .i64 t601)).setCell ⟨gb606, 1, none⟩ (.slice Ao126 t602.length co126)) = w127 at n0_ n1_ n2_ n3_ n4_ n5_ n6_ n7_ n8_ n9_ n10_ ⊢
      have HO586 := n0_
      have HO592 := n1_
      have HO598 := n2_
      have HO604 := n3_
      have BK575 := n4_
      have BK576 := n5_
      have BK588 := n6_
      have BK594 := n7_
      have BK600 := n8_
      have BK606 := n9_
      have HB := n10_
      clear n0_ n1_ n2_ n3_ n4_ n5_ n6_ n7_ n8_ n9_ n10_
      first | (obtain ⟨w127, hq_⟩ : ∃ x, x = w127.drewN nd := ⟨_, rfl⟩; rw [← hq_]; have q0_ := Aside0.mk (Kd.R_drewN HO586.out nd); rw [← hq_] at q0_; have q1_ := Aside0.mk (Kd.R_drewN HO592.out nd); rw [← hq_] at q1_; have q2_ := Aside0.mk (Kd.R_drewN HO598.out nd); rw [← hq_] at q2_; have q3_ := Aside0.mk (Kd.R_drewN HO604.out nd); rw [← hq_] at q3_; have q4_ := Aside0.mk (blk_drewN BK575.out nd); rw [← hq_] at q4_; have q5_ := Aside0.mk (blk_drewN BK576.out nd); rw [← hq_] at q5_; have q6_ := Aside0.mk (blk_drewN BK588.out nd); rw [← hq_] at q6_; have q7_ := Aside0.mk (blk_drewN BK594.out nd); rw [← hq_] at q7_; have q8_ := Aside0.mk (blk_drewN BK600.out nd); rw [← hq_] at q8_; have q9_ := Aside0.mk (blk_drewN BK606.out nd); rw [← hq_] at q9_; clear HO586; clear HO592; clear HO598; clear HO604; clear BK575; clear BK576; clear BK588; clear BK594; clear BK600; clear BK606; have HO586 := q0_; have HO592 := q1_; have HO598 := q2_; have HO604 := q3_; have BK575 := q4_; have BK576 := q5_; have BK588 := q6_; have BK594 := q7_; have BK600 := q8_; have BK606 := q9_; clear hq_ q0_ q1_ q2_ q3_ q4_ q5_ q6_ q7_ q8_ q9_) | skip
      have n_ := a_ (Aside0.mk (Kd.R_drew HO586.out)) (a_ (Aside0.mk (Kd.R_drew HO592.out)) (a_ (Aside0.mk (Kd.R_drew HO598.out)) (a_ (Aside0.mk (Kd.R_drew HO604.out)) (a_ (Aside0.mk (blk_drew BK575.out)) (a_ (Aside0.mk (blk_drew BK576.out)) (a_ (Aside0.mk (blk_drew BK588.out)) (a_ (Aside0.mk (blk_drew BK594.out)) (a_ (Aside0.mk (blk_drew BK600.out)) (a_ (Aside0.mk (blk_drew BK606.out)) (Aside0.mk (below_drew1 HB.out)))))))))))
      clear HO586 HO592 HO598 HO604 BK575 BK576 BK588 BK594 BK600 BK606 HB
      obtain ⟨HO586, HO592, HO598, HO604, BK575, BK576, BK588, BK594, BK600, BK606, HB⟩ := n_
      refine start_ (n := 8) (S := fun w' => w'.cell? ⟨gb575, 0, none⟩ = some (.int .i64 a0_0) ∧ w'.cell? ⟨gb575, 1, none⟩ = some (.slice A0_1 l0_1.length c0_1) ∧ w'.cell? ⟨gb576, 0, none⟩ = some (.int .i64 a1_0) ∧ w'.cell? ⟨gb576, 1, none⟩ = some (.slice A1_1 l1_1.length c1_1)) (ds := []) #[false, false, false, false, false, false, false, false] (by kernel_rfl) rfl rfl ⟨(blk_cell BK575.out 0).trans rfl, (blk_cell BK575.out 1).trans rfl, (blk_cell BK576.out 0).trans rfl, (blk_cell BK576.out 1).trans rfl⟩ (fun hHeld => ?_); refine with_tabW warrantorlaw09_ZoneHas_v0.tab7 warrantorlaw09_ZoneHas_v0.bits7 (fun HT_ HW_ => ?_)
      generalize w127.drew = w128 at HO586 HO592 HO598 HO604 BK575 BK576 BK588 BK594 BK600 BK606 HB hHeld ⊢
      refine pu_ 1 (some 96) ?_
      refine pu_ 4 (some 99) ?_
      refine take_ (i := 0) (N := some 95) (v := ?_) (a' := ?_) #[true, true, false, false, true, false, false, false] rfl rfl (take_ofW HT_.out HW_.out (by kernel_rfl)) (fun _ _ _ h => h) (Or.inl ⟨by rfl, ?_⟩) hHeld ?_ ?_
      rotate_left
      · rintro w' ⟨s0, s1, s2, s3⟩
        go_simp
        with_reducible rfl
      rotate_left
      · exact AP_
      refine take_ (i := 3) (N := some 98) (v := ?_) (a' := ?_) #[true, true, false, true, true, false, false, false] rfl rfl (take_ofW HT_.out HW_.out (by kernel_rfl)) (fun _ _ _ h => h) (Or.inl ⟨by rfl, ?_⟩) hHeld ?_ ?_
      rotate_left
      · rintro w' ⟨s0, s1, s2, s3⟩
        go_simp
        with_reducible rfl
      rotate_left
      · exact AP_
      refine on_ 2 (some 97) (fun K hK => ?_)
      refine goes_ Try.func45 (by kernel_rfl) rfl #[.agg #[.int .i64 a0_0, .slice A0_1 l0_1.length c0_1], .slice A2 l2.length c2] (by rfl) rfl rfl MP_ ?_
      with_reducible refine (dbm_Has.calls kj6 a0_0 _ _ l0_1 _ _ l2 true _ ?side1 ?side2 ?side3 ?side4 A59.out).mono ?_
      (case side1 => exact sd_ (Kd.C_below HR0_1.out HB.out))
      (case side2 => exact HC0_1.out)
      (case side3 => exact sd_ (Kd.C_below HR2.out HB.out))
      (case side4 => exact HC2.out)
      rintro e w129 ⟨rfl, hb⟩
      refine ⟨_, rfl, ?_⟩
      have n_ := a_ (rb_ HO586 hb) (a_ (rb_ HO592 hb) (a_ (rb_ HO598 hb) (a_ (rb_ HO604 hb) (a_ (bb_ BK575 hb) (a_ (bb_ BK576 hb) (a_ (bb_ BK588 hb) (a_ (bb_ BK594 hb) (a_ (bb_ BK600 hb) (a_ (bb_ BK606 hb) (bs_ HB hb))))))))))
      clear HO586 HO592 HO598 HO604 BK575 BK576 BK588 BK594 BK600 BK606 HB
      obtain ⟨HO586, HO592, HO598, HO604, BK575, BK576, BK588, BK594, BK600, BK606, HB⟩ := n_
      (try clear hb)
      (try clear hb2)
      (try clear hk)
      (try clear hi)
      refine hK.out _ _ ⟨(blk_cell BK575.out 0).trans rfl, (blk_cell BK575.out 1).trans rfl, (blk_cell BK576.out 0).trans rfl, (blk_cell BK576.out 1).trans rfl⟩ (fun hHeld => ?_)
      clear hK K
      refine nm_ ?_
      refine on_ 5 (some 100) (fun K hK => ?_)
      refine goes_ Try.func45 (by kernel_rfl) rfl #[.agg #[.int .i64 a1_0, .slice A1_1 l1_1.length c1_1], .slice A2 l2.length c2] (by rfl) rfl rfl MP_ ?_
      with_reducible refine (dbm_Has.calls kj6 a1_0 _ _ l1_1 _ _ l2 t608 _ ?side1 ?side2 ?side3 ?side4 A60.out).mono ?_
      (case side1 => exact sd_ (Kd.C_below HR1_1.out HB.out))
      (case side2 => exact HC1_1.out)
      (case side3 => exact sd_ (Kd.C_below HR2.out HB.out))
      (case side4 => exact HC2.out)
      rintro e w130 ⟨rfl, hb⟩
      refine ⟨_, rfl, ?_⟩
      have n_ := a_ (rb_ HO586 hb) (a_ (rb_ HO592 hb) (a_ (rb_ HO598 hb) (a_ (rb_ HO604 hb) (a_ (bb_ BK575 hb) (a_ (bb_ BK576 hb) (a_ (bb_ BK588 hb) (a_ (bb_ BK594 hb) (a_ (bb_ BK600 hb) (a_ (bb_ BK606 hb) (bs_ HB hb))))))))))
      clear HO586 HO592 HO598 HO604 BK575 BK576 BK588 BK594 BK600 BK606 HB
      obtain ⟨HO586, HO592, HO598, HO604, BK575, BK576, BK588, BK594, BK600, BK606, HB⟩ := n_
      (try clear hb)
      (try clear hb2)
      (try clear hk)
      (try clear hi)
      refine hK.out _ _ ⟨(blk_cell BK575.out 0).trans rfl, (blk_cell BK575.out 1).trans rfl, (blk_cell BK576.out 0).trans rfl, (blk_cell BK576.out 1).trans rfl⟩ (fun hHeld => ?_)
      clear hK K
      refine nm_ ?_
      refine pu_ 6 (some 21) ?_
      refine pu_ 7 (some 22) ?_
      refine done_ (done_of HT_.out (by kernel_rfl)) ?_
      try go_wp2_with (first | ((with_reducible refine gate_callee (f := 22) rfl ?_); refine goesL_ (some 101) rfl rfl Try.func22 (by kernel_rfl) rfl #[] rfl MP_ ?_; (with_reducible refine (warrantorlaw09_lives.calls kj6  true _ A61.out).mono ?_); rintro e w131 ⟨rfl, hb⟩; refine ⟨_, rfl, ?_⟩; have n_ := a_ (rb_ HO586 hb) (a_ (rb_ HO592 hb) (a_ (rb_ HO598 hb) (a_ (rb_ HO604 hb) (a_ (bb_ BK575 hb) (a_ (bb_ BK576 hb) (a_ (bb_ BK588 hb) (a_ (bb_ BK594 hb) (a_ (bb_ BK600 hb) (a_ (bb_ BK606 hb) (bs_ HB hb)))))))))); clear HO586 HO592 HO598 HO604 BK575 BK576 BK588 BK594 BK600 BK606 HB; obtain ⟨HO586, HO592, HO598, HO604, BK575, BK576, BK588, BK594, BK600, BK606, HB⟩ := n_; (try clear hb); (try clear hb2); (try clear hk); (try clear hi); obtain ⟨hcz132_0, hcz132_1, hfz132_0, hfz132_1⟩ := cz2_ BK588) | (go_at_call 45; (with_reducible refine (dbm_Has.calls kj6 t583 _ _ t584 _ _ l2 t610 _ ?side1 ?side2 ?side3 ?side4 A63.out).mono ?_); (case side1 => repeat (first | exact (Kd.R_reads' HO586.out).2.2 | (with_reducible refine Kd.C_alloc ?_ _) | (with_reducible refine Kd.C_drewN ?_ _) | (with_reducible refine Kd.C_drew ?_))); (case side2 => exact (Kd.R_reads' HO586.out).2.1); (case side3 => exact sd_ (Kd.C_below HR2.out HB.out)); (case side4 => exact HC2.out); rintro e w133 ⟨rfl, hb⟩; have n_ := a_ (rb_ HO586 hb) (a_ (rb_ HO592 hb) (a_ (rb_ HO598 hb) (a_ (rb_ HO604 hb) (a_ (bb_ BK575 hb) (a_ (bb_ BK576 hb) (a_ (bb_ BK588 hb) (a_ (bb_ BK594 hb) (a_ (bb_ BK600 hb) (a_ (bb_ BK606 hb) (bs_ HB hb)))))))))); clear HO586 HO592 HO598 HO604 BK575 BK576 BK588 BK594 BK600 BK606 HB; obtain ⟨HO586, HO592, HO598, HO604, BK575, BK576, BK588, BK594, BK600, BK606, HB⟩ := n_; (try clear hb); (try clear hb2); (try clear hk); (try clear hi); obtain ⟨hcz134_0, hcz134_1, hfz134_0, hfz134_1⟩ := cz2_ BK594) | (go_at_call 45; (with_reducible refine (dbm_Has.calls kj6 t589 _ _ t590 _ _ l2 true _ ?side1 ?side2 ?side3 ?side4 A66.out).mono ?_); (case side1 => repeat (first | exact (Kd.R_reads' HO592.out).2.2 | (with_reducible refine Kd.C_alloc ?_ _) | (with_reducible refine Kd.C_drewN ?_ _) | (with_reducible refine Kd.C_drew ?_))); (case side2 => exact (Kd.R_reads' HO592.out).2.1); (case side3 => exact sd_ (Kd.C_below HR2.out HB.out)); (case side4 => exact HC2.out); rintro e w135 ⟨rfl, hb⟩; have n_ := a_ (rb_ HO586 hb) (a_ (rb_ HO592 hb) (a_ (rb_ HO598 hb) (a_ (rb_ HO604 hb) (a_ (bb_ BK575 hb) (a_ (bb_ BK576 hb) (a_ (bb_ BK588 hb) (a_ (bb_ BK594 hb) (a_ (bb_ BK600 hb) (a_ (bb_ BK606 hb) (bs_ HB hb)))))))))); clear HO586 HO592 HO598 HO604 BK575 BK576 BK588 BK594 BK600 BK606 HB; obtain ⟨HO586, HO592, HO598, HO604, BK575, BK576, BK588, BK594, BK600, BK606, HB⟩ := n_; (try clear hb); (try clear hb2); (try clear hk); (try clear hi); obtain ⟨hcz136_0, hcz136_1, hfz136_0, hfz136_1⟩ := cz2_ BK600) | (go_at_call 45; (with_reducible refine (dbm_Has.calls kj6 t595 _ _ t596 _ _ l2 true _ ?side1 ?side2 ?side3 ?side4 A68.out).mono ?_); (case side1 => repeat (first | exact (Kd.R_reads' HO598.out).2.2 | (with_reducible refine Kd.C_alloc ?_ _) | (with_reducible refine Kd.C_drewN ?_ _) | (with_reducible refine Kd.C_drew ?_))); (case side2 => exact (Kd.R_reads' HO598.out).2.1); (case side3 => exact sd_ (Kd.C_below HR2.out HB.out)); (case side4 => exact HC2.out); rintro e w137 ⟨rfl, hb⟩; have n_ := a_ (rb_ HO586 hb) (a_ (rb_ HO592 hb) (a_ (rb_ HO598 hb) (a_ (rb_ HO604 hb) (a_ (bb_ BK575 hb) (a_ (bb_ BK576 hb) (a_ (bb_ BK588 hb) (a_ (bb_ BK594 hb) (a_ (bb_ BK600 hb) (a_ (bb_ BK606 hb) (bs_ HB hb)))))))))); clear HO586 HO592 HO598 HO604 BK575 BK576 BK588 BK594 BK600 BK606 HB; obtain ⟨HO586, HO592, HO598, HO604, BK575, BK576, BK588, BK594, BK600, BK606, HB⟩ := n_; (try clear hb); (try clear hb2); (try clear hk); (try clear hi); obtain ⟨hcz138_0, hcz138_1, hfz138_0, hfz138_1⟩ := cz2_ BK606) | ((with_reducible refine gate_callee (f := 45) rfl ?_); refine goesL_ (some 133) rfl rfl Try.func45 (by kernel_rfl) rfl #[.agg #[.int .i64 t601, .slice Ao126 t602.length co126], .slice A2 l2.length c2] rfl MP_ ?_; (with_reducible refine (dbm_Has.calls kj6 t601 _ _ t602 _ _ l2 t613 _ ?side1 ?side2 ?side3 ?side4 A70.out).mono ?_); (case side1 => repeat (first | exact (Kd.R_reads' HO604.out).2.2 | (with_reducible refine Kd.C_alloc ?_ _) | (with_reducible refine Kd.C_drewN ?_ _) | (with_reducible refine Kd.C_drew ?_))); (case side2 => exact (Kd.R_reads' HO604.out).2.1); (case side3 => exact sd_ (Kd.C_below HR2.out HB.out)); (case side4 => exact HC2.out); rintro e w139 ⟨rfl, hb⟩; refine ⟨_, rfl, ?_⟩; have n_ := a_ (rb_ HO586 hb) (a_ (rb_ HO592 hb) (a_ (rb_ HO598 hb) (a_ (rb_ HO604 hb) (a_ (bb_ BK575 hb) (a_ (bb_ BK576 hb) (a_ (bb_ BK588 hb) (a_ (bb_ BK594 hb) (a_ (bb_ BK600 hb) (a_ (bb_ BK606 hb) (bs_ HB hb)))))))))); clear HO586 HO592 HO598 HO604 BK575 BK576 BK588 BK594 BK600 BK606 HB; obtain ⟨HO586, HO592, HO598, HO604, BK575, BK576, BK588, BK594, BK600, BK606, HB⟩ := n_; (try clear hb); (try clear hb2); (try clear hk); (try clear hi)) | (go_at_call 44; (with_reducible refine (warrantorlaw09_value.calls _ _ l2 a3 t614 _ ?side1 ?side2 A71.out).mono ?_); (case side1 => exact sd_ (Kd.C_below HR2.out HB.out)); (case side2 => exact HC2.out); rintro e w' ⟨rfl, ⟨nd, rfl⟩⟩; (try (rw [drewN_self w139]; generalize hq_ : World.drewN w139 _ = w139; have n0_ : Aside0 (Kd.R (Kd.int .i64) 3 w139 w.heap.size (fun k_ => some k_ ≠ (.slice Ao106 t590.length co106 : Value).ownBlock ∧ some k_ ≠ (.slice Ao116 t596.length co116 : Value).ownBlock ∧ some k_ ≠ (.slice Ao126 t602.length co126 : Value).ownBlock) (.slice Ao97 t584.length co97) t584) := ⟨by rw [← hq_]; exact (rd_ HO586.out)⟩; have n1_ : Aside0 (Kd.R (Kd.int .i64) 3 w139 w.heap.size (fun k_ => some k_ ≠ (.slice Ao97 t584.length co97 : Value).ownBlock ∧ some k_ ≠ (.slice Ao116 t596.length co116 : Value).ownBlock ∧ some k_ ≠ (.slice Ao126 t602.length co126 : Value).ownBlock) (.slice Ao106 t590.length co106) t590) := ⟨by rw [← hq_]; exact (rd_ HO592.out)⟩; have n2_ : Aside0 (Kd.R (Kd.int .i64) 3 w139 w.heap.size (fun k_ => some k_ ≠ (.slice Ao97 t584.length co97 : Value).ownBlock ∧ some k_ ≠ (.slice Ao106 t590.length co106 : Value).ownBlock ∧ some k_ ≠ (.slice Ao126 t602.length co126 : Value).ownBlock) (.slice Ao116 t596.length co116) t596) := ⟨by rw [← hq_]; exact (rd_ HO598.out)⟩; have n3_ : Aside0 (Kd.R (Kd.int .i64) 3 w139 w.heap.size (fun k_ => some k_ ≠ (.slice Ao97 t584.length co97 : Value).ownBlock ∧ some k_ ≠ (.slice Ao106 t590.length co106 : Value).ownBlock ∧ some k_ ≠ (.slice Ao116 t596.length co116 : Value).ownBlock) (.slice Ao126 t602.length co126) t602) := ⟨by rw [← hq_]; exact (rd_ HO604.out)⟩; have n4_ : Aside0 (w139.heap[gb575]? = some (.cells #[.int .i64 a0_0, .slice A0_1 l0_1.length c0_1] 24 (0, 0))) := ⟨by rw [← hq_]; exact (bk_ BK575.out)⟩; have n5_ : Aside0 (w139.heap[gb576]? = some (.cells #[.int .i64 a1_0, .slice A1_1 l1_1.length c1_1] 24 (0, 0))) := ⟨by rw [← hq_]; exact (bk_ BK576.out)⟩; have n6_ : Aside0 (w139.heap[gb588]? = some (.cells #[.int .i64 t583, .slice Ao97 t584.length co97] 24 (0, 0))) := ⟨by rw [← hq_]; exact (bk_ BK588.out)⟩; have n7_ : Aside0 (w139.heap[gb594]? = some (.cells #[.int .i64 t589, .slice Ao106 t590.length co106] 24 (0, 0))) := ⟨by rw [← hq_]; exact (bk_ BK594.out)⟩; have n8_ : Aside0 (w139.heap[gb600]? = some (.cells #[.int .i64 t595, .slice Ao116 t596.length co116] 24 (0, 0))) := ⟨by rw [← hq_]; exact (bk_ BK600.out)⟩; have n9_ : Aside0 (w139.heap[gb606]? = some (.cells #[.int .i64 t601, .slice Ao126 t602.length co126] 24 (0, 0))) := ⟨by rw [← hq_]; exact (bk_ BK606.out)⟩; have n10_ : Aside0 (Below w.heap.size w w139) := ⟨by rw [← hq_]; exact HB_⟩; clear HO586 HO592 HO598 HO604 BK575 BK576 BK588 BK594 BK600 BK606 HB hq_; have HO586 := n0_; have HO592 := n1_; have HO598 := n2_; have HO604 := n3_; have BK575 := n4_; have BK576 := n5_; have BK588 := n6_; have BK594 := n7_; have BK600 := n8_; have BK606 := n9_; have HB := n10_; clear n0_ n1_ n2_ n3_ n4_ n5_ n6_ n7_ n8_ n9_ n10_; (try (obtain ⟨hczu_gb575_0, hczu_gb575_1, hfzu_gb575_0, hfzu_gb575_1⟩ := cz2_ BK575; obtain ⟨hczu_gb576_0, hczu_gb576_1, hfzu_gb576_0, hfzu_gb576_1⟩ := cz2_ BK576; obtain ⟨hczu_gb588_0, hczu_gb588_1, hfzu_gb588_0, hfzu_gb588_1⟩ := cz2_ BK588; obtain ⟨hczu_gb594_0, hczu_gb594_1, hfzu_gb594_0, hfzu_gb594_1⟩ := cz2_ BK594; obtain ⟨hczu_gb600_0, hczu_gb600_1, hfzu_gb600_0, hfzu_gb600_1⟩ := cz2_ BK600; obtain ⟨hczu_gb606_0, hczu_gb606_1, hfzu_gb606_0, hfzu_gb606_1⟩ := cz2_ BK606))))) | (go_at_call 44; (with_reducible refine (warrantorlaw09_value.calls _ _ l2 a4 t615 _ ?side1 ?side2 A72.out).mono ?_); (case side1 => exact sd_ (Kd.C_below HR2.out HB.out)); (case side2 => exact HC2.out); rintro e w' ⟨rfl, ⟨nd, rfl⟩⟩; (try (rw [drewN_self w139]; generalize hq_ : World.drewN w139 _ = w139; have n0_ : Aside0 (Kd.R (Kd.int .i64) 3 w139 w.heap.size (fun k_ => some k_ ≠ (.slice Ao106 t590.length co106 : Value).ownBlock ∧ some k_ ≠ (.slice Ao116 t596.length co116 : Value).ownBlock ∧ some k_ ≠ (.slice Ao126 t602.length co126 : Value).ownBlock) (.slice Ao97 t584.length co97) t584) := ⟨by rw [← hq_]; exact (rd_ HO586.out)⟩; have n1_ : Aside0 (Kd.R (Kd.int .i64) 3 w139 w.heap.size (fun k_ => some k_ ≠ (.slice Ao97 t584.length co97 : Value).ownBlock ∧ some k_ ≠ (.slice Ao116 t596.length co116 : Value).ownBlock ∧ some k_ ≠ (.slice Ao126 t602.length co126 : Value).ownBlock) (.slice Ao106 t590.length co106) t590) := ⟨by rw [← hq_]; exact (rd_ HO592.out)⟩; have n2_ : Aside0 (Kd.R (Kd.int .i64) 3 w139 w.heap.size (fun k_ => some k_ ≠ (.slice Ao97 t584.length co97 : Value).ownBlock ∧ some k_ ≠ (.slice Ao106 t590.length co106 : Value).ownBlock ∧ some k_ ≠ (.slice Ao126 t602.length co126 : Value).ownBlock) (.slice Ao116 t596.length co116) t596) := ⟨by rw [← hq_]; exact (rd_ HO598.out)⟩; have n3_ : Aside0 (Kd.R (Kd.int .i64) 3 w139 w.heap.size (fun k_ => some k_ ≠ (.slice Ao97 t584.length co97 : Value).ownBlock ∧ some k_ ≠ (.slice Ao106 t590.length co106 : Value).ownBlock ∧ some k_ ≠ (.slice Ao116 t596.length co116 : Value).ownBlock) (.slice Ao126 t602.length co126) t602) := ⟨by rw [← hq_]; exact (rd_ HO604.out)⟩; have n4_ : Aside0 (w139.heap[gb575]? = some (.cells #[.int .i64 a0_0, .slice A0_1 l0_1.length c0_1] 24 (0, 0))) := ⟨by rw [← hq_]; exact (bk_ BK575.out)⟩; have n5_ : Aside0 (w139.heap[gb576]? = some (.cells #[.int .i64 a1_0, .slice A1_1 l1_1.length c1_1] 24 (0, 0))) := ⟨by rw [← hq_]; exact (bk_ BK576.out)⟩; have n6_ : Aside0 (w139.heap[gb588]? = some (.cells #[.int .i64 t583, .slice Ao97 t584.length co97] 24 (0, 0))) := ⟨by rw [← hq_]; exact (bk_ BK588.out)⟩; have n7_ : Aside0 (w139.heap[gb594]? = some (.cells #[.int .i64 t589, .slice Ao106 t590.length co106] 24 (0, 0))) := ⟨by rw [← hq_]; exact (bk_ BK594.out)⟩; have n8_ : Aside0 (w139.heap[gb600]? = some (.cells #[.int .i64 t595, .slice Ao116 t596.length co116] 24 (0, 0))) := ⟨by rw [← hq_]; exact (bk_ BK600.out)⟩; have n9_ : Aside0 (w139.heap[gb606]? = some (.cells #[.int .i64 t601, .slice Ao126 t602.length co126] 24 (0, 0))) := ⟨by rw [← hq_]; exact (bk_ BK606.out)⟩; have n10_ : Aside0 (Below w.heap.size w w139) := ⟨by rw [← hq_]; exact HB_⟩; clear HO586 HO592 HO598 HO604 BK575 BK576 BK588 BK594 BK600 BK606 HB hq_; have HO586 := n0_; have HO592 := n1_; have HO598 := n2_; have HO604 := n3_; have BK575 := n4_; have BK576 := n5_; have BK588 := n6_; have BK594 := n7_; have BK600 := n8_; have BK606 := n9_; have HB := n10_; clear n0_ n1_ n2_ n3_ n4_ n5_ n6_ n7_ n8_ n9_ n10_; (try (obtain ⟨hczu_gb575_0, hczu_gb575_1, hfzu_gb575_0, hfzu_gb575_1⟩ := cz2_ BK575; obtain ⟨hczu_gb576_0, hczu_gb576_1, hfzu_gb576_0, hfzu_gb576_1⟩ := cz2_ BK576; obtain ⟨hczu_gb588_0, hczu_gb588_1, hfzu_gb588_0, hfzu_gb588_1⟩ := cz2_ BK588; obtain ⟨hczu_gb594_0, hczu_gb594_1, hfzu_gb594_0, hfzu_gb594_1⟩ := cz2_ BK594; obtain ⟨hczu_gb600_0, hczu_gb600_1, hfzu_gb600_0, hfzu_gb600_1⟩ := cz2_ BK600; obtain ⟨hczu_gb606_0, hczu_gb606_1, hfzu_gb606_0, hfzu_gb606_1⟩ := cz2_ BK606)))); obtain ⟨hcz140_0, hcz140_1, hfz140_0, hfz140_1⟩ := cz2_ BK575) | ((with_reducible refine gate_callee (f := 24) rfl ?_); refine goesL_ (some 150) rfl rfl Try.func24 (by kernel_rfl) rfl #[.agg #[.int .i64 a0_0, .slice A0_1 l0_1.length c0_1], .int .i64 a3] rfl MP_ ?_; (with_reducible refine (zone_Forget.calls kj6 a0_0 _ _ l0_1 a3 t616 t617 t620 _ ?side1 ?side2 A74.out).mono ?_); (case side1 => exact sd_ (Kd.C_below HR0_1.out HB.out)); (case side2 => exact HC0_1.out); rintro e w141 ⟨v618, rfl, ho0, hb⟩; refine ⟨_, rfl, ?_⟩; have n_ := a_ (Aside0.mk (Kd.R_elder' (rd_ HO586.out) (Kd.R_base ho0) hb)) (a_ (Aside0.mk (Kd.R_elder' (rd_ HO592.out) (Kd.R_base ho0) hb)) (a_ (Aside0.mk (Kd.R_elder' (rd_ HO598.out) (Kd.R_base ho0) hb)) (a_ (Aside0.mk (Kd.R_elder' (rd_ HO604.out) (Kd.R_base ho0) hb)) (a_ (Aside0.mk (Kd.R_lower (Kd.R_new' (Kd.R_new' (Kd.R_new' (Kd.R_new' ho0 (Kd.R_lt (rd_ HO586.out))) (Kd.R_lt (rd_ HO592.out))) (Kd.R_lt (rd_ HO598.out))) (Kd.R_lt (rd_ HO604.out))) (below_size HB_))) (a_ (bb_ BK575 hb) (a_ (bb_ BK576 hb) (a_ (bb_ BK588 hb) (a_ (bb_ BK594 hb) (a_ (bb_ BK600 hb) (a_ (bb_ BK606 hb) (bs_ HB hb))))))))))); clear HO586 HO592 HO598 HO604 BK575 BK576 BK588 BK594 BK600 BK606 HB; obtain ⟨HO586, HO592, HO598, HO604, HO619, BK575, BK576, BK588, BK594, BK600, BK606, HB⟩ := n_; (try clear hb); (try clear hb2); (try clear hk); (try clear hi); (try clear ho0)) | ((with_reducible refine gate_dst (N := 23) rfl ?_); (try (refine gate_guard (by rfl) ?_; dsimp only)); refine bx_ (N := 23) (cs := #[.int .i64 0, .slice none 0 0]) (t := 24) ?_; intro gb621 hg w142 hbox hb; have n_ := a_ (rb_ HO586 hb) (a_ (rb_ HO592 hb) (a_ (rb_ HO598 hb) (a_ (rb_ HO604 hb) (a_ (rb_ HO619 hb) (a_ (bb_ BK575 hb) (a_ (bb_ BK576 hb) (a_ (bb_ BK588 hb) (a_ (bb_ BK594 hb) (a_ (bb_ BK600 hb) (a_ (bb_ BK606 hb) (a_ (bs_ HB hb) (a_ (Aside0.mk hbox) (a_ (gs_ HB hg) (a_ (gs_ HB hg) (a_ (nl_ BK575 hg) (a_ (ng_ BK575 hg) (a_ (nl_ BK576 hg) (a_ (ng_ BK576 hg) (a_ (nl_ BK588 hg) (a_ (ng_ BK588 hg) (a_ (nl_ BK594 hg) (a_ (ng_ BK594 hg) (a_ (nl_ BK600 hg) (a_ (ng_ BK600 hg) (a_ (nl_ BK606 hg) (ng_ BK606 hg)))))))))))))))))))))))))); clear HO586 HO592 HO598 HO604 HO619 BK575 BK576 BK588 BK594 BK600 BK606 HB; obtain ⟨HO586, HO592, HO598, HO604, HO619, BK575, BK576, BK588, BK594, BK600, BK606, HB, BK621, GW621, GE621, NB575_621, NB621_575, NB576_621, NB621_576, NB588_621, NB621_588, NB594_621, NB621_594, NB600_621, NB621_600, NB606_621, NB621_606⟩ := n_; clear hb hbox hg; have hnb143 := NB621_575.out; have hnc143 := NB575_621.out; have hnb144 := NB621_576.out; have hnc144 := NB576_621.out; have hnb145 := NB621_588.out; have hnc145 := NB588_621.out; have hnb146 := NB621_594.out; have hnc146 := NB594_621.out; have hnb147 := NB621_600.out; have hnc147 := NB600_621.out; have hnb148 := NB621_606.out; have hnc148 := NB606_621.out; obtain ⟨hcz149_0, hcz149_1, hfz149_0, hfz149_1⟩ := cz2_ BK621; obtain ⟨Ao150, co150, eo150⟩ := Kd.R_slice HO619.out; subst eo150) | ((with_reducible refine gate_callee (f := 26) rfl ?_); refine goesL_ (some 156) rfl rfl Try.func26 (by kernel_rfl) rfl #[.agg #[.int .i64 t616, .slice Ao150 t617.length co150], .int .i64 a3] rfl MP_ ?_; (with_reducible refine (zone_Itv.calls kj6 t616 _ _ t617 a3 t622 t623 t624 _ ?side1 ?side2 A75.out).mono ?_); (case side1 => refine (Kd.R_reads' (e := 3) (base := w.heap.size) (ok := fun k_ => ((((True ∧ some k_ ≠ (.slice Ao97 t584.length co97 : Value).ownBlock) ∧ some k_ ≠ (.slice Ao106 t590.length co106 : Value).ownBlock) ∧ some k_ ≠ (.slice Ao116 t596.length co116 : Value).ownBlock) ∧ some k_ ≠ (.slice Ao126 t602.length co126 : Value).ownBlock)) (n := t617.length) (c := co150) ?_).2.2; exact (rd_ (rf2_ HO619 BK621 (.int .i64 t616) (.slice Ao150 t617.length co150)))); (case side2 => exact (Kd.R_reads' HO619.out).2.1); rintro e w151 ⟨rfl, hb⟩; refine ⟨_, rfl, ?_⟩; have n_ := a_ (Aside0.mk (Kd.R_below (rd_ (rf2_ HO586 BK621 (.int .i64 t616) (.slice Ao150 t617.length co150))) hb)) (a_ (Aside0.mk (Kd.R_below (rd_ (rf2_ HO592 BK621 (.int .i64 t616) (.slice Ao150 t617.length co150))) hb)) (a_ (Aside0.mk (Kd.R_below (rd_ (rf2_ HO598 BK621 (.int .i64 t616) (.slice Ao150 t617.length co150))) hb)) (a_ (Aside0.mk (Kd.R_below (rd_ (rf2_ HO604 BK621 (.int .i64 t616) (.slice Ao150 t617.length co150))) hb)) (a_ (Aside0.mk (Kd.R_below (rd_ (rf2_ HO619 BK621 (.int .i64 t616) (.slice Ao150 t617.length co150))) hb)) (a_ (bc_ #[.int .i64 a0_0, .slice A0_1 l0_1.length c0_1] 24 BK575 hb) (a_ (bc_ #[.int .i64 a1_0, .slice A1_1 l1_1.length c1_1] 24 BK576 hb) (a_ (bc_ #[.int .i64 t583, .slice Ao97 t584.length co97] 24 BK588 hb) (a_ (bc_ #[.int .i64 t589, .slice Ao106 t590.length co106] 24 BK594 hb) (a_ (bc_ #[.int .i64 t595, .slice Ao116 t596.length co116] 24 BK600 hb) (a_ (bc_ #[.int .i64 t601, .slice Ao126 t602.length co126] 24 BK606 hb) (a_ (bc_ #[.int .i64 t616, .slice Ao150 t617.length co150] 24 BK621 hb) (bs_ HB hb)))))))))))); clear HO586 HO592 HO598 HO604 HO619 BK575 BK576 BK588 BK594 BK600 BK606 BK621 HB; obtain ⟨HO586, HO592, HO598, HO604, HO619, BK575, BK576, BK588, BK594, BK600, BK606, BK621, HB⟩ := n_; (try clear hb); (try clear hb2); (try clear hk); (try clear hi)) | ((with_reducible refine gate_dst (N := 25) rfl ?_); (try (refine gate_guard (by rfl) ?_; dsimp only)); refine bx_ (N := 25) (cs := #[.int .i64 0, .int .i64 0]) (t := 39) ?_; intro gb625 hg w152 hbox hb; have n_ := a_ (rb_ HO586 hb) (a_ (rb_ HO592 hb) (a_ (rb_ HO598 hb) (a_ (rb_ HO604 hb) (a_ (rb_ HO619 hb) (a_ (bb_ BK575 hb) (a_ (bb_ BK576 hb) (a_ (bb_ BK588 hb) (a_ (bb_ BK594 hb) (a_ (bb_ BK600 hb) (a_ (bb_ BK606 hb) (a_ (bb_ BK621 hb) (a_ (bs_ HB hb) (a_ (Aside0.mk hbox) (a_ (gs_ HB hg) (a_ (gs_ HB hg) (a_ (nl_ BK575 hg) (a_ (ng_ BK575 hg) (a_ (nl_ BK576 hg) (a_ (ng_ BK576 hg) (a_ (nl_ BK588 hg) (a_ (ng_ BK588 hg) (a_ (nl_ BK594 hg) (a_ (ng_ BK594 hg) (a_ (nl_ BK600 hg) (a_ (ng_ BK600 hg) (a_ (nl_ BK606 hg) (a_ (ng_ BK606 hg) (a_ (nl_ BK621 hg) (ng_ BK621 hg))))))))))))))))))))))))))))); clear HO586 HO592 HO598 HO604 HO619 BK575 BK576 BK588 BK594 BK600 BK606 BK621 HB; obtain ⟨HO586, HO592, HO598, HO604, HO619, BK575, BK576, BK588, BK594, BK600, BK606, BK621, HB, BK625, GW625, GE625, NB575_625, NB625_575, NB576_625, NB625_576, NB588_625, NB625_588, NB594_625, NB625_594, NB600_625, NB625_600, NB606_625, NB625_606, NB621_625, NB625_621⟩ := n_; clear hb hbox hg; have hnb153 := NB625_575.out; have hnc153 := NB575_625.out; have hnb154 := NB625_576.out; have hnc154 := NB576_625.out; have hnb155 := NB625_588.out; have hnc155 := NB588_625.out; have hnb156 := NB625_594.out; have hnc156 := NB594_625.out; have hnb157 := NB625_600.out; have hnc157 := NB600_625.out; have hnb158 := NB625_606.out; have hnc158 := NB606_625.out; have hnb159 := NB625_621.out; have hnc159 := NB621_625.out; obtain ⟨hcz160_0, hcz160_1, hfz160_0, hfz160_1⟩ := cz2_ BK625) | ((with_reducible refine gate_callee (f := 44) rfl ?_); refine goesL_ (some 163) rfl rfl Try.func44 (by kernel_rfl) rfl #[.slice A2 l2.length c2, .int .i64 a4] rfl MP_ ?_; (with_reducible refine (warrantorlaw09_value.calls _ _ l2 a4 t626 _ ?side1 ?side2 A76.out).mono ?_); (case side1 => exact Kd.C_below HR2.out HB_); (case side2 => exact HC2.out); rintro e w' ⟨rfl, ⟨nd, rfl⟩⟩; refine ⟨_, rfl, ?_⟩) | ((with_reducible refine gate_callee (f := 58) rfl ?_); refine goesL_ (some 165) rfl rfl Try.func58 (by kernel_rfl) rfl #[.int .i64 a5] rfl MP_ ?_; (with_reducible refine (warrantorref06_Clip.calls a5 t627 _ A77.out).mono ?_); rintro e w' ⟨rfl, ⟨nd, rfl⟩⟩; refine ⟨_, rfl, ?_⟩))
      have n0_ : Aside0 (Kd.R (Kd.int .i64) 3 ((w152.setCell ⟨gb625, 0, none⟩ (.int .i64 t622)).setCell ⟨gb625, 1, none⟩ (.int .i64 t623)) w.heap.size (fun k_ => some k_ ≠ (.slice Ao106 t590.length co106 : Value).ownBlock ∧ some k_ ≠ (.slice Ao116 t596.length co116 : Value).ownBlock ∧ some k_ ≠ (.slice Ao126 t602.length co126 : Value).ownBlock ∧ some k_ ≠ (.slice Ao150 t617.length co150 : Value).ownBlock) (.slice Ao97 t584.length co97) t584) := ⟨by (with_reducible repeat (first | apply Kd.R_alloc | apply Kd.R_drewN | apply Kd.R_drew)); exact Kd.R_mono (Kd.R_far (p := ⟨gb625, 1, none⟩) (Kd.R_far (p := ⟨gb625, 0, none⟩) (Kd.R_types HO586.out BK625.out (by decide)) (fun _ hk => hk.2) (.int .i64 t622)) (fun _ hk => hk.2) (.int .i64 t623)) (fun _ hk => ⟨hk.1.1.1, ⟨hk.1.1.2.1, ⟨hk.1.1.2.2, hk.1.2⟩⟩⟩)⟩
      have n1_ : Aside0 (Kd.R (Kd.int .i64) 3 ((w152.setCell ⟨gb625, 0, none⟩ (.int .i64 t622)).setCell ⟨gb625, 1, none⟩ (.int .i64 t623)) w.heap.size (fun k_ => some k_ ≠ (.slice Ao97 t584.length co97 : Value).ownBlock ∧ some k_ ≠ (.slice Ao116 t596.length co116 : Value).ownBlock ∧ some k_ ≠ (.slice Ao126 t602.length co126 : Value).ownBlock ∧ some k_ ≠ (.slice Ao150 t617.length co150 : Value).ownBlock) (.slice Ao106 t590.length co106) t590) := ⟨by (with_reducible repeat (first | apply Kd.R_alloc | apply Kd.R_drewN | apply Kd.R_drew)); exact Kd.R_mono (Kd.R_far (p := ⟨gb625, 1, none⟩) (Kd.R_far (p := ⟨gb625, 0, none⟩) (Kd.R_types HO592.out BK625.out (by decide)) (fun _ hk => hk.2) (.int .i64 t622)) (fun _ hk => hk.2) (.int .i64 t623)) (fun _ hk => ⟨hk.1.1.1, ⟨hk.1.1.2.1, ⟨hk.1.1.2.2, hk.1.2⟩⟩⟩)⟩
      have n2_ : Aside0 (Kd.R (Kd.int .i64) 3 ((w152.setCell ⟨gb625, 0, none⟩ (.int .i64 t622)).setCell ⟨gb625, 1, none⟩ (.int .i64 t623)) w.heap.size (fun k_ => some k_ ≠ (.slice Ao97 t584.length co97 : Value).ownBlock ∧ some k_ ≠ (.slice Ao106 t590.length co106 : Value).ownBlock ∧ some k_ ≠ (.slice Ao126 t602.length co126 : Value).ownBlock ∧ some k_ ≠ (.slice Ao150 t617.length co150 : Value).ownBlock) (.slice Ao116 t596.length co116) t596) := ⟨by (with_reducible repeat (first | apply Kd.R_alloc | apply Kd.R_drewN | apply Kd.R_drew)); exact Kd.R_mono (Kd.R_far (p := ⟨gb625, 1, none⟩) (Kd.R_far (p := ⟨gb625, 0, none⟩) (Kd.R_types HO598.out BK625.out (by decide)) (fun _ hk => hk.2) (.int .i64 t622)) (fun _ hk => hk.2) (.int .i64 t623)) (fun _ hk => ⟨hk.1.1.1, ⟨hk.1.1.2.1, ⟨hk.1.1.2.2, hk.1.2⟩⟩⟩)⟩
      have n3_ : Aside0 (Kd.R (Kd.int .i64) 3 ((w152.setCell ⟨gb625, 0, none⟩ (.int .i64 t622)).setCell ⟨gb625, 1, none⟩ (.int .i64 t623)) w.heap.size (fun k_ => some k_ ≠ (.slice Ao97 t584.length co97 : Value).ownBlock ∧ some k_ ≠ (.slice Ao106 t590.length co106 : Value).ownBlock ∧ some k_ ≠ (.slice Ao116 t596.length co116 : Value).ownBlock ∧ some k_ ≠ (.slice Ao150 t617.length co150 : Value).ownBlock) (.slice Ao126 t602.length co126) t602) := ⟨by (with_reducible repeat (first | apply Kd.R_alloc | apply Kd.R_drewN | apply Kd.R_drew)); exact Kd.R_mono (Kd.R_far (p := ⟨gb625, 1, none⟩) (Kd.R_far (p := ⟨gb625, 0, none⟩) (Kd.R_types HO604.out BK625.out (by decide)) (fun _ hk => hk.2) (.int .i64 t622)) (fun _ hk => hk.2) (.int .i64 t623)) (fun _ hk => ⟨hk.1.1.1, ⟨hk.1.1.2.1, ⟨hk.1.1.2.2, hk.1.2⟩⟩⟩)⟩
      have n4_ : Aside0 (Kd.R (Kd.int .i64) 3 ((w152.setCell ⟨gb625, 0, none⟩ (.int .i64 t622)).setCell ⟨gb625, 1, none⟩ (.int .i64 t623)) w.heap.size (fun k_ => some k_ ≠ (.slice Ao97 t584.length co97 : Value).ownBlock ∧ some k_ ≠ (.slice Ao106 t590.length co106 : Value).ownBlock ∧ some k_ ≠ (.slice Ao116 t596.length co116 : Value).ownBlock ∧ some k_ ≠ (.slice Ao126 t602.length co126 : Value).ownBlock) (.slice Ao150 t617.length co150) t617) := ⟨by (with_reducible repeat (first | apply Kd.R_alloc | apply Kd.R_drewN | apply Kd.R_drew)); exact Kd.R_mono (Kd.R_far (p := ⟨gb625, 1, none⟩) (Kd.R_far (p := ⟨gb625, 0, none⟩) (Kd.R_types HO619.out BK625.out (by decide)) (fun _ hk => hk.2) (.int .i64 t622)) (fun _ hk => hk.2) (.int .i64 t623)) (fun _ hk => ⟨hk.1.1.1.1.2, ⟨hk.1.1.1.2, ⟨hk.1.1.2, hk.1.2⟩⟩⟩)⟩
      have n5_ : Aside0 (((w152.setCell ⟨gb625, 0, none⟩ (.int .i64 t622)).setCell ⟨gb625, 1, none⟩ (.int .i64 t623)).heap[gb575]? = some (.cells #[.int .i64 a0_0, .slice A0_1 l0_1.length c0_1] 24 (0, 0))) := ⟨by (with_reducible repeat (first | refine blk_drewN ?_ _ | refine blk_drew ?_ | refine blk_alloc ?_ _)); refine blk_far ?_ NB575_625.out _; (with_reducible repeat (first | refine blk_drewN ?_ _ | refine blk_drew ?_ | refine blk_alloc ?_ _)); refine blk_far ?_ NB575_625.out _; (with_reducible repeat (first | refine blk_drewN ?_ _ | refine blk_drew ?_ | refine blk_alloc ?_ _)); exact BK575.out⟩
      have n6_ : Aside0 (((w152.setCell ⟨gb625, 0, none⟩ (.int .i64 t622)).setCell ⟨gb625, 1, none⟩ (.int .i64 t623)).heap[gb576]? = some (.cells #[.int .i64 a1_0, .slice A1_1 l1_1.length c1_1] 24 (0, 0))) := ⟨by (with_reducible repeat (first | refine blk_drewN ?_ _ | refine blk_drew ?_ | refine blk_alloc ?_ _)); refine blk_far ?_ NB576_625.out _; (with_reducible repeat (first | refine blk_drewN ?_ _ | refine blk_drew ?_ | refine blk_alloc ?_ _)); refine blk_far ?_ NB576_625.out _; (with_reducible repeat (first | refine blk_drewN ?_ _ | refine blk_drew ?_ | refine blk_alloc ?_ _)); exact BK576.out⟩
      have n7_ : Aside0 (((w152.setCell ⟨gb625, 0, none⟩ (.int .i64 t622)).setCell ⟨gb625, 1, none⟩ (.int .i64 t623)).heap[gb588]? = some (.cells #[.int .i64 t583, .slice Ao97 t584.length co97] 24 (0, 0))) := ⟨by (with_reducible repeat (first | refine blk_drewN ?_ _ | refine blk_drew ?_ | refine blk_alloc ?_ _)); refine blk_far ?_ NB588_625.out _; (with_reducible repeat (first | refine blk_drewN ?_ _ | refine blk_drew ?_ | refine blk_alloc ?_ _)); refine blk_far ?_ NB588_625.out _; (with_reducible repeat (first | refine blk_drewN ?_ _ | refine blk_drew ?_ | refine blk_alloc ?_ _)); exact BK588.out⟩
      have n8_ : Aside0 (((w152.setCell ⟨gb625, 0, none⟩ (.int .i64 t622)).setCell ⟨gb625, 1, none⟩ (.int .i64 t623)).heap[gb594]? = some (.cells #[.int .i64 t589, .slice Ao106 t590.length co106] 24 (0, 0))) := ⟨by (with_reducible repeat (first | refine blk_drewN ?_ _ | refine blk_drew ?_ | refine blk_alloc ?_ _)); refine blk_far ?_ NB594_625.out _; (with_reducible repeat (first | refine blk_drewN ?_ _ | refine blk_drew ?_ | refine blk_alloc ?_ _)); refine blk_far ?_ NB594_625.out _; (with_reducible repeat (first | refine blk_drewN ?_ _ | refine blk_drew ?_ | refine blk_alloc ?_ _)); exact BK594.out⟩
      have n9_ : Aside0 (((w152.setCell ⟨gb625, 0, none⟩ (.int .i64 t622)).setCell ⟨gb625, 1, none⟩ (.int .i64 t623)).heap[gb600]? = some (.cells #[.int .i64 t595, .slice Ao116 t596.length co116] 24 (0, 0))) := ⟨by (with_reducible repeat (first | refine blk_drewN ?_ _ | refine blk_drew ?_ | refine blk_alloc ?_ _)); refine blk_far ?_ NB600_625.out _; (with_reducible repeat (first | refine blk_drewN ?_ _ | refine blk_drew ?_ | refine blk_alloc ?_ _)); refine blk_far ?_ NB600_625.out _; (with_reducible repeat (first | refine blk_drewN ?_ _ | refine blk_drew ?_ | refine blk_alloc ?_ _)); exact BK600.out⟩
      have n10_ : Aside0 (((w152.setCell ⟨gb625, 0, none⟩ (.int .i64 t622)).setCell ⟨gb625, 1, none⟩ (.int .i64 t623)).heap[gb606]? = some (.cells #[.int .i64 t601, .slice Ao126 t602.length co126] 24 (0, 0))) := ⟨by (with_reducible repeat (first | refine blk_drewN ?_ _ | refine blk_drew ?_ | refine blk_alloc ?_ _)); refine blk_far ?_ NB606_625.out _; (with_reducible repeat (first | refine blk_drewN ?_ _ | refine blk_drew ?_ | refine blk_alloc ?_ _)); refine blk_far ?_ NB606_625.out _; (with_reducible repeat (first | refine blk_drewN ?_ _ | refine blk_drew ?_ | refine blk_alloc ?_ _)); exact BK606.out⟩
      have n11_ : Aside0 (((w152.setCell ⟨gb625, 0, none⟩ (.int .i64 t622)).setCell ⟨gb625, 1, none⟩ (.int .i64 t623)).heap[gb621]? = some (.cells #[.int .i64 t616, .slice Ao150 t617.length co150] 24 (0, 0))) := ⟨by (with_reducible repeat (first | refine blk_drewN ?_ _ | refine blk_drew ?_ | refine blk_alloc ?_ _)); refine blk_far ?_ NB621_625.out _; (with_reducible repeat (first | refine blk_drewN ?_ _ | refine blk_drew ?_ | refine blk_alloc ?_ _)); refine blk_far ?_ NB621_625.out _; (with_reducible repeat (first | refine blk_drewN ?_ _ | refine blk_drew ?_ | refine blk_alloc ?_ _)); exact BK621.out⟩
      have n12_ : Aside0 (((w152.setCell ⟨gb625, 0, none⟩ (.int .i64 t622)).setCell ⟨gb625, 1, none⟩ (.int .i64 t623)).heap[gb625]? = some (.cells #[.int .i64 t622, .int .i64 t623] 39 (0, 0))) := ⟨by (with_reducible repeat (first | refine blk_drewN ?_ _ | refine blk_drew ?_ | refine blk_alloc ?_ _)); refine blk_put (cs := #[.int .i64 t622, .int .i64 0]) ?_ 1 _ rfl; (with_reducible repeat (first | refine blk_drewN ?_ _ | refine blk_drew ?_ | refine blk_alloc ?_ _)); refine blk_put (cs := #[.int .i64 0, .int .i64 0]) ?_ 0 _ rfl; (with_reducible repeat (first | refine blk_drewN ?_ _ | refine blk_drew ?_ | refine blk_alloc ?_ _)); exact BK625.out⟩
      have n13_ : Aside0 (Below w.heap.size w ((w152.setCell ⟨gb625, 0, none⟩ (.int .i64 t622)).setCell ⟨gb625, 1, none⟩ (.int .i64 t623))) := ⟨HB_⟩
      (try clear HO586)
      (try clear HO592)
      (try clear HO598)
      (try clear HO604)
      (try clear HO619)
      (try clear BK575)
      (try clear BK576)
      (try clear BK588)
      (try clear BK594)
      (try clear BK600)
      (try clear BK606)
      (try clear BK621)
      (try clear BK625)
      (try clear HB)
      generalize ((w152.setCell ⟨gb625, 0, none⟩ (.int .i64 t622)).setCell ⟨gb625, 1, none⟩ (.int .i64 t623)) = w161 at n0_ n1_ n2_ n3_ n4_ n5_ n6_ n7_ n8_ n9_ n10_ n11_ n12_ n13_ ⊢
      have HO586 := n0_
      have HO592 := n1_
      have HO598 := n2_
      have HO604 := n3_
      have HO619 := n4_
      have BK575 := n5_
      have BK576 := n6_
      have BK588 := n7_
      have BK594 := n8_
      have BK600 := n9_
      have BK606 := n10_
      have BK621 := n11_
      have BK625 := n12_
      have HB := n13_
      clear n0_ n1_ n2_ n3_ n4_ n5_ n6_ n7_ n8_ n9_ n10_ n11_ n12_ n13_
      (try (rw [drewN_self w161]; generalize hq_ : World.drewN w161 _ = w161; have n0_ : Aside0 (Kd.R (Kd.int .i64) 3 w161 w.heap.size (fun k_ => some k_ ≠ (.slice Ao106 t590.length co106 : Value).ownBlock ∧ some k_ ≠ (.slice Ao116 t596.length co116 : Value).ownBlock ∧ some k_ ≠ (.slice Ao126 t602.length co126 : Value).ownBlock ∧ some k_ ≠ (.slice Ao150 t617.length co150 : Value).ownBlock) (.slice Ao97 t584.length co97) t584) := ⟨by rw [← hq_]; exact (rd_ HO586.out)⟩; have n1_ : Aside0 (Kd.R (Kd.int .i64) 3 w161 w.heap.size (fun k_ => some k_ ≠ (.slice Ao97 t584.length co97 : Value).ownBlock ∧ some k_ ≠ (.slice Ao116 t596.length co116 : Value).ownBlock ∧ some k_ ≠ (.slice Ao126 t602.length co126 : Value).ownBlock ∧ some k_ ≠ (.slice Ao150 t617.length co150 : Value).ownBlock) (.slice Ao106 t590.length co106) t590) := ⟨by rw [← hq_]; exact (rd_ HO592.out)⟩; have n2_ : Aside0 (Kd.R (Kd.int .i64) 3 w161 w.heap.size (fun k_ => some k_ ≠ (.slice Ao97 t584.length co97 : Value).ownBlock ∧ some k_ ≠ (.slice Ao106 t590.length co106 : Value).ownBlock ∧ some k_ ≠ (.slice Ao126 t602.length co126 : Value).ownBlock ∧ some k_ ≠ (.slice Ao150 t617.length co150 : Value).ownBlock) (.slice Ao116 t596.length co116) t596) := ⟨by rw [← hq_]; exact (rd_ HO598.out)⟩; have n3_ : Aside0 (Kd.R (Kd.int .i64) 3 w161 w.heap.size (fun k_ => some k_ ≠ (.slice Ao97 t584.length co97 : Value).ownBlock ∧ some k_ ≠ (.slice Ao106 t590.length co106 : Value).ownBlock ∧ some k_ ≠ (.slice Ao116 t596.length co116 : Value).ownBlock ∧ some k_ ≠ (.slice Ao150 t617.length co150 : Value).ownBlock) (.slice Ao126 t602.length co126) t602) := ⟨by rw [← hq_]; exact (rd_ HO604.out)⟩; have n4_ : Aside0 (Kd.R (Kd.int .i64) 3 w161 w.heap.size (fun k_ => some k_ ≠ (.slice Ao97 t584.length co97 : Value).ownBlock ∧ some k_ ≠ (.slice Ao106 t590.length co106 : Value).ownBlock ∧ some k_ ≠ (.slice Ao116 t596.length co116 : Value).ownBlock ∧ some k_ ≠ (.slice Ao126 t602.length co126 : Value).ownBlock) (.slice Ao150 t617.length co150) t617) := ⟨by rw [← hq_]; exact (rd_ HO619.out)⟩; have n5_ : Aside0 (w161.heap[gb575]? = some (.cells #[.int .i64 a0_0, .slice A0_1 l0_1.length c0_1] 24 (0, 0))) := ⟨by rw [← hq_]; exact (bk_ BK575.out)⟩; have n6_ : Aside0 (w161.heap[gb576]? = some (.cells #[.int .i64 a1_0, .slice A1_1 l1_1.length c1_1] 24 (0, 0))) := ⟨by rw [← hq_]; exact (bk_ BK576.out)⟩; have n7_ : Aside0 (w161.heap[gb588]? = some (.cells #[.int .i64 t583, .slice Ao97 t584.length co97] 24 (0, 0))) := ⟨by rw [← hq_]; exact (bk_ BK588.out)⟩; have n8_ : Aside0 (w161.heap[gb594]? = some (.cells #[.int .i64 t589, .slice Ao106 t590.length co106] 24 (0, 0))) := ⟨by rw [← hq_]; exact (bk_ BK594.out)⟩; have n9_ : Aside0 (w161.heap[gb600]? = some (.cells #[.int .i64 t595, .slice Ao116 t596.length co116] 24 (0, 0))) := ⟨by rw [← hq_]; exact (bk_ BK600.out)⟩; have n10_ : Aside0 (w161.heap[gb606]? = some (.cells #[.int .i64 t601, .slice Ao126 t602.length co126] 24 (0, 0))) := ⟨by rw [← hq_]; exact (bk_ BK606.out)⟩; have n11_ : Aside0 (w161.heap[gb621]? = some (.cells #[.int .i64 t616, .slice Ao150 t617.length co150] 24 (0, 0))) := ⟨by rw [← hq_]; exact (bk_ BK621.out)⟩; have n12_ : Aside0 (w161.heap[gb625]? = some (.cells #[.int .i64 t622, .int .i64 t623] 39 (0, 0))) := ⟨by rw [← hq_]; exact (bk_ BK625.out)⟩; have n13_ : Aside0 (Below w.heap.size w w161) := ⟨by rw [← hq_]; exact HB_⟩; clear HO586 HO592 HO598 HO604 HO619 BK575 BK576 BK588 BK594 BK600 BK606 BK621 BK625 HB hq_; have HO586 := n0_; have HO592 := n1_; have HO598 := n2_; have HO604 := n3_; have HO619 := n4_; have BK575 := n5_; have BK576 := n6_; have BK588 := n7_; have BK594 := n8_; have BK600 := n9_; have BK606 := n10_; have BK621 := n11_; have BK625 := n12_; have HB := n13_; clear n0_ n1_ n2_ n3_ n4_ n5_ n6_ n7_ n8_ n9_ n10_ n11_ n12_ n13_; (try (obtain ⟨hczu_gb575_0, hczu_gb575_1, hfzu_gb575_0, hfzu_gb575_1⟩ := cz2_ BK575; obtain ⟨hczu_gb576_0, hczu_gb576_1, hfzu_gb576_0, hfzu_gb576_1⟩ := cz2_ BK576; obtain ⟨hczu_gb588_0, hczu_gb588_1, hfzu_gb588_0, hfzu_gb588_1⟩ := cz2_ BK588; obtain ⟨hczu_gb594_0, hczu_gb594_1, hfzu_gb594_0, hfzu_gb594_1⟩ := cz2_ BK594; obtain ⟨hczu_gb600_0, hczu_gb600_1, hfzu_gb600_0, hfzu_gb600_1⟩ := cz2_ BK600))))
      have n_ := a_ (Aside0.mk (Kd.R_drew HO586.out)) (a_ (Aside0.mk (Kd.R_drew HO592.out)) (a_ (Aside0.mk (Kd.R_drew HO598.out)) (a_ (Aside0.mk (Kd.R_drew HO604.out)) (a_ (Aside0.mk (Kd.R_drew HO619.out)) (a_ (Aside0.mk (blk_drew BK575.out)) (a_ (Aside0.mk (blk_drew BK576.out)) (a_ (Aside0.mk (blk_drew BK588.out)) (a_ (Aside0.mk (blk_drew BK594.out)) (a_ (Aside0.mk (blk_drew BK600.out)) (a_ (Aside0.mk (blk_drew BK606.out)) (a_ (Aside0.mk (blk_drew BK621.out)) (a_ (Aside0.mk (blk_drew BK625.out)) (Aside0.mk (below_drew1 HB.out))))))))))))))
      clear HO586 HO592 HO598 HO604 HO619 BK575 BK576 BK588 BK594 BK600 BK606 BK621 BK625 HB
      obtain ⟨HO586, HO592, HO598, HO604, HO619, BK575, BK576, BK588, BK594, BK600, BK606, BK621, BK625, HB⟩ := n_
      refine start_ (n := 12) (S := fun w' => w'.cell? ⟨gb575, 0, none⟩ = some (.int .i64 a0_0) ∧ w'.cell? ⟨gb575, 1, none⟩ = some (.slice A0_1 l0_1.length c0_1)) (ds := []) #[false, false, false, false, false, false, false, false, false, false, false, false] (by kernel_rfl) rfl rfl ⟨(blk_cell BK575.out 0).trans rfl, (blk_cell BK575.out 1).trans rfl⟩ (fun hHeld => ?_); refine with_tabW warrantorlaw09_ZoneHas_v0.tab17 warrantorlaw09_ZoneHas_v0.bits17 (fun HT_ HW_ => ?_)
      generalize w161.drew = w162 at HO586 HO592 HO598 HO604 HO619 BK575 BK576 BK588 BK594 BK600 BK606 BK621 BK625 HB hHeld ⊢
      refine pu_ 1 (some 169) ?_
      refine pu_ 2 (some 170) ?_
      refine pu_ 3 (some 171) ?_
      refine take_ (i := 0) (N := some 168) (v := ?_) (a' := ?_) #[true, true, true, true, false, false, false, false, false, false, false, false] rfl rfl (take_ofW HT_.out HW_.out (by kernel_rfl)) (fun _ _ _ h => h) (Or.inl ⟨by rfl, ?_⟩) hHeld ?_ ?_
      rotate_left
      · rintro w' ⟨s0, s1⟩
        go_simp
        with_reducible rfl
      rotate_left
      · exact AP_
      refine join_ (σ := Value × Nat) 2 #[true, true, true, true, true, true, true, true, true, true, false, false] (fun s_ => [(172, .int .i64 t628), (173, .tuple #[.agg #[.int .i64 t629, s_.1], .int .i64 t633]), (28, .pointer (some ⟨s_.2, 0, none⟩)), (167, .tuple #[.agg #[.int .i64 t629, s_.1], .int .i64 t633]), (174, .agg #[.int .i64 t629, s_.1]), (175, .int .i64 t633)]) (fun s_ w' => (w'.cell? ⟨gb575, 0, none⟩ = some (.int .i64 a0_0) ∧ w'.cell? ⟨gb575, 1, none⟩ = some (.slice A0_1 l0_1.length c0_1)) ∧ (Kd.R (Kd.int .i64) 3 w' w.heap.size (fun k_ => some k_ ≠ (.slice Ao106 t590.length co106 : Value).ownBlock ∧ some k_ ≠ (.slice Ao116 t596.length co116 : Value).ownBlock ∧ some k_ ≠ (.slice Ao126 t602.length co126 : Value).ownBlock ∧ some k_ ≠ (.slice Ao150 t617.length co150 : Value).ownBlock ∧ some k_ ≠ (s_.1 : Value).ownBlock) (.slice Ao97 t584.length co97) t584) ∧ (Kd.R (Kd.int .i64) 3 w' w.heap.size (fun k_ => some k_ ≠ (.slice Ao97 t584.length co97 : Value).ownBlock ∧ some k_ ≠ (.slice Ao116 t596.length co116 : Value).ownBlock ∧ some k_ ≠ (.slice Ao126 t602.length co126 : Value).ownBlock ∧ some k_ ≠ (.slice Ao150 t617.length co150 : Value).ownBlock ∧ some k_ ≠ (s_.1 : Value).ownBlock) (.slice Ao106 t590.length co106) t590) ∧ (Kd.R (Kd.int .i64) 3 w' w.heap.size (fun k_ => some k_ ≠ (.slice Ao97 t584.length co97 : Value).ownBlock ∧ some k_ ≠ (.slice Ao106 t590.length co106 : Value).ownBlock ∧ some k_ ≠ (.slice Ao126 t602.length co126 : Value).ownBlock ∧ some k_ ≠ (.slice Ao150 t617.length co150 : Value).ownBlock ∧ some k_ ≠ (s_.1 : Value).ownBlock) (.slice Ao116 t596.length co116) t596) ∧ (Kd.R (Kd.int .i64) 3 w' w.heap.size (fun k_ => some k_ ≠ (.slice Ao97 t584.length co97 : Value).ownBlock ∧ some k_ ≠ (.slice Ao106 t590.length co106 : Value).ownBlock ∧ some k_ ≠ (.slice Ao116 t596.length co116 : Value).ownBlock ∧ some k_ ≠ (.slice Ao150 t617.length co150 : Value).ownBlock ∧ some k_ ≠ (s_.1 : Value).ownBlock) (.slice Ao126 t602.length co126) t602) ∧ (Kd.R (Kd.int .i64) 3 w' w.heap.size (fun k_ => some k_ ≠ (.slice Ao97 t584.length co97 : Value).ownBlock ∧ some k_ ≠ (.slice Ao106 t590.length co106 : Value).ownBlock ∧ some k_ ≠ (.slice Ao116 t596.length co116 : Value).ownBlock ∧ some k_ ≠ (.slice Ao126 t602.length co126 : Value).ownBlock ∧ some k_ ≠ (s_.1 : Value).ownBlock) (.slice Ao150 t617.length co150) t617) ∧ (Kd.R (Kd.int .i64) 3 w' w.heap.size (fun k_ => some k_ ≠ (.slice Ao97 t584.length co97 : Value).ownBlock ∧ some k_ ≠ (.slice Ao106 t590.length co106 : Value).ownBlock ∧ some k_ ≠ (.slice Ao116 t596.length co116 : Value).ownBlock ∧ some k_ ≠ (.slice Ao126 t602.length co126 : Value).ownBlock ∧ some k_ ≠ (.slice Ao150 t617.length co150 : Value).ownBlock) s_.1 t630) ∧ (w'.heap[gb575]? = some (.cells #[.int .i64 a0_0, .slice A0_1 l0_1.length c0_1] 24 (0, 0))) ∧ (w'.heap[gb576]? = some (.cells #[.int .i64 a1_0, .slice A1_1 l1_1.length c1_1] 24 (0, 0))) ∧ (w'.heap[gb588]? = some (.cells #[.int .i64 t583, .slice Ao97 t584.length co97] 24 (0, 0))) ∧ (w'.heap[gb594]? = some (.cells #[.int .i64 t589, .slice Ao106 t590.length co106] 24 (0, 0))) ∧ (w'.heap[gb600]? = some (.cells #[.int .i64 t595, .slice Ao116 t596.length co116] 24 (0, 0))) ∧ (w'.heap[gb606]? = some (.cells #[.int .i64 t601, .slice Ao126 t602.length co126] 24 (0, 0))) ∧ (w'.heap[gb621]? = some (.cells #[.int .i64 t616, .slice Ao150 t617.length co150] 24 (0, 0))) ∧ (w'.heap[gb625]? = some (.cells #[.int .i64 t622, .int .i64 t623] 39 (0, 0))) ∧ (w'.heap[s_.2]? = some (.cells #[.int .i64 0, .slice none 0 0] 24 (0, 0))) ∧ (w.heap.size ≤ s_.2) ∧ (w.heap.size ≤ s_.2) ∧ (gb575 ≠ s_.2) ∧ (s_.2 ≠ gb575) ∧ (gb576 ≠ s_.2) ∧ (s_.2 ≠ gb576) ∧ (gb588 ≠ s_.2) ∧ (s_.2 ≠ gb588) ∧ (gb594 ≠ s_.2) ∧ (s_.2 ≠ gb594) ∧ (gb600 ≠ s_.2) ∧ (s_.2 ≠ gb600) ∧ (gb606 ≠ s_.2) ∧ (s_.2 ≠ gb606) ∧ (gb621 ≠ s_.2) ∧ (s_.2 ≠ gb621) ∧ (gb625 ≠ s_.2) ∧ (s_.2 ≠ gb625) ∧ (Below w.heap.size w w')) ?_ ?_
      rotate_left
      · intro hCont
        refine two_ (i := 4) (j := 9) (Ni := some 172) (Nj := some 28) #[true, true, true, true, true, false, false, false, false, false, false, false] #[true, true, true, true, false, false, false, false, false, true, false, false] rfl rfl rfl rfl (two_of HT_.out (by kernel_rfl)) (by decide) (by decide) (fun K hK => ?_) (fun K hK => ?_)
        · skip
          refine goes_ Try.func58 (by kernel_rfl) rfl #[.int .i64 a5] (by rfl) rfl rfl MP_ ?_
          with_reducible refine (warrantorref06_Clip.calls a5 t628 _ A78.out).mono ?_
          rintro e w' ⟨rfl, ⟨nd, rfl⟩⟩
          refine ⟨_, rfl, ?_⟩
          refine hK.out _ _ ⟨(blk_cell BK575.out 0).trans rfl, (blk_cell BK575.out 1).trans rfl⟩ (fun hHeld => ?_)
          clear hK K
          refine nm_ ?_
          refine two_ (i := 5) (j := 9) (Ni := some 173) (Nj := some 28) #[true, true, true, true, true, true, false, false, false, false, false, false] #[true, true, true, true, true, false, false, false, false, true, false, false] rfl rfl rfl rfl (two_of HT_.out (by kernel_rfl)) (by decide) (by decide) (fun K hK => ?_) (fun K hK => ?_)
          · skip
            refine goes_ Try.func25 (by kernel_rfl) rfl #[.agg #[.int .i64 a0_0, .slice A0_1 l0_1.length c0_1], .int .i64 a3, .int .i64 a4, .int .i64 t628] (by rfl) rfl rfl MP_ ?_
            with_reducible refine (zone_Let.calls kj6 a0_0 _ _ l0_1 a3 a4 t628 t629 t630 t633 _ ?side1 ?side2 A79.out).mono ?_
            (case side1 => repeat (first | exact (Kd.C_below HR0_1.out HB_) | (with_reducible refine Kd.C_alloc ?_ _) | (with_reducible refine Kd.C_drewN ?_ _) | (with_reducible refine Kd.C_drew ?_)))
            (case side2 => exact HC0_1.out)
            rintro e w163 ⟨v631, rfl, ho0, hb⟩
            refine ⟨_, rfl, ?_⟩
            have n_ := a_ (Aside0.mk (Kd.R_elder' (rd_ HO586.out) (Kd.R_base ho0) hb)) (a_ (Aside0.mk (Kd.R_elder' (rd_ HO592.out) (Kd.R_base ho0) hb)) (a_ (Aside0.mk (Kd.R_elder' (rd_ HO598.out) (Kd.R_base ho0) hb)) (a_ (Aside0.mk (Kd.R_elder' (rd_ HO604.out) (Kd.R_base ho0) hb)) (a_ (Aside0.mk (Kd.R_elder' (rd_ HO619.out) (Kd.R_base ho0) hb)) (a_ (Aside0.mk (Kd.R_lower (Kd.R_new' (Kd.R_new' (Kd.R_new' (Kd.R_new' (Kd.R_new' ho0 (Kd.R_lt (rd_ HO586.out))) (Kd.R_lt (rd_ HO592.out))) (Kd.R_lt (rd_ HO598.out))) (Kd.R_lt (rd_ HO604.out))) (Kd.R_lt (rd_ HO619.out))) (below_size HB_))) (a_ (bb_ BK575 hb) (a_ (bb_ BK576 hb) (a_ (bb_ BK588 hb) (a_ (bb_ BK594 hb) (a_ (bb_ BK600 hb) (a_ (bb_ BK606 hb) (a_ (bb_ BK621 hb) (a_ (bb_ BK625 hb) (bs_ HB hb))))))))))))))
            clear HO586 HO592 HO598 HO604 HO619 BK575 BK576 BK588 BK594 BK600 BK606 BK621 BK625 HB
            obtain ⟨HO586, HO592, HO598, HO604, HO619, HO632, BK575, BK576, BK588, BK594, BK600, BK606, BK621, BK625, HB⟩ := n_
            (try clear hb)
            (try clear hb2)
            (try clear hk)
            (try clear hi)
            (try clear ho0)
            refine hK.out _ _ ⟨(blk_cell BK575.out 0).trans rfl, (blk_cell BK575.out 1).trans rfl⟩ (fun hHeld => ?_)
            clear hK K
            refine nm_ ?_
            refine pu_ 6 (some 167) ?_
            refine pu_ 7 (some 174) ?_
            refine pu_ 8 (some 175) ?_
            refine on_ 9 (some 28) (fun K hK => ?_)
            refine box_step ?hg (N := 28) ?hd (cs := #[.int .i64 0, .slice none 0 0]) (t := 24) ?hr ?_; (case hd => rfl); (case hg => rfl); (case hr => first | (go_simp; done) | (go_simp; rfl))
            intro gb634 hg w164 hbox hb
            have n_ := a_ (rb_ HO586 hb) (a_ (rb_ HO592 hb) (a_ (rb_ HO598 hb) (a_ (rb_ HO604 hb) (a_ (rb_ HO619 hb) (a_ (rb_ HO632 hb) (a_ (bb_ BK575 hb) (a_ (bb_ BK576 hb) (a_ (bb_ BK588 hb) (a_ (bb_ BK594 hb) (a_ (bb_ BK600 hb) (a_ (bb_ BK606 hb) (a_ (bb_ BK621 hb) (a_ (bb_ BK625 hb) (a_ (bs_ HB hb) (a_ (Aside0.mk hbox) (a_ (gs_ HB hg) (a_ (gs_ HB hg) (a_ (nl_ BK575 hg) (a_ (ng_ BK575 hg) (a_ (nl_ BK576 hg) (a_ (ng_ BK576 hg) (a_ (nl_ BK588 hg) (a_ (ng_ BK588 hg) (a_ (nl_ BK594 hg) (a_ (ng_ BK594 hg) (a_ (nl_ BK600 hg) (a_ (ng_ BK600 hg) (a_ (nl_ BK606 hg) (a_ (ng_ BK606 hg) (a_ (nl_ BK621 hg) (a_ (ng_ BK621 hg) (a_ (nl_ BK625 hg) (ng_ BK625 hg)))))))))))))))))))))))))))))))))
            clear HO586 HO592 HO598 HO604 HO619 HO632 BK575 BK576 BK588 BK594 BK600 BK606 BK621 BK625 HB
            obtain ⟨HO586, HO592, HO598, HO604, HO619, HO632, BK575, BK576, BK588, BK594, BK600, BK606, BK621, BK625, HB, BK634, GW634, GE634, NB575_634, NB634_575, NB576_634, NB634_576, NB588_634, NB634_588, NB594_634, NB634_594, NB600_634, NB634_600, NB606_634, NB634_606, NB621_634, NB634_621, NB625_634, NB634_625⟩ := n_
            clear hb hbox hg
            refine hK.out _ _ ⟨(blk_cell BK575.out 0).trans rfl, (blk_cell BK575.out 1).trans rfl⟩ (fun hHeld => ?_)
            clear hK K
            refine norm_ (a' := ?_) ?_ ?_
            rotate_left
            · show Act.put _ (some 28) _ = _
              simp only [Act.put, List.setIfInBounds_toArray, List.set_cons_zero, List.set_cons_succ, i64_w, i32_w]
              rfl
            exact norm_ (by simp only [putAll, Act.put, List.setIfInBounds_toArray, List.set_cons_zero, List.set_cons_succ]) (hCont (v631, gb634) _ ⟨hHeld, (by (with_reducible repeat (first | apply Kd.R_alloc | apply Kd.R_drewN | apply Kd.R_drew)); exact Kd.R_mono HO586.out (fun _ hk => ⟨hk.1.1, ⟨hk.1.2.1, ⟨hk.1.2.2.1, ⟨hk.1.2.2.2, hk.2⟩⟩⟩⟩)), (by (with_reducible repeat (first | apply Kd.R_alloc | apply Kd.R_drewN | apply Kd.R_drew)); exact Kd.R_mono HO592.out (fun _ hk => ⟨hk.1.1, ⟨hk.1.2.1, ⟨hk.1.2.2.1, ⟨hk.1.2.2.2, hk.2⟩⟩⟩⟩)), (by (with_reducible repeat (first | apply Kd.R_alloc | apply Kd.R_drewN | apply Kd.R_drew)); exact Kd.R_mono HO598.out (fun _ hk => ⟨hk.1.1, ⟨hk.1.2.1, ⟨hk.1.2.2.1, ⟨hk.1.2.2.2, hk.2⟩⟩⟩⟩)), (by (with_reducible repeat (first | apply Kd.R_alloc | apply Kd.R_drewN | apply Kd.R_drew)); exact Kd.R_mono HO604.out (fun _ hk => ⟨hk.1.1, ⟨hk.1.2.1, ⟨hk.1.2.2.1, ⟨hk.1.2.2.2, hk.2⟩⟩⟩⟩)), (by (with_reducible repeat (first | apply Kd.R_alloc | apply Kd.R_drewN | apply Kd.R_drew)); exact Kd.R_mono HO619.out (fun _ hk => ⟨hk.1.1, ⟨hk.1.2.1, ⟨hk.1.2.2.1, ⟨hk.1.2.2.2, hk.2⟩⟩⟩⟩)), (by (with_reducible repeat (first | apply Kd.R_alloc | apply Kd.R_drewN | apply Kd.R_drew)); exact Kd.R_mono HO632.out (fun _ hk => ⟨hk.1.1.1.1.2, ⟨hk.1.1.1.2, ⟨hk.1.1.2, ⟨hk.1.2, hk.2⟩⟩⟩⟩)), (bk_ BK575.out), (bk_ BK576.out), (bk_ BK588.out), (bk_ BK594.out), (bk_ BK600.out), (bk_ BK606.out), (bk_ BK621.out), (bk_ BK625.out), (bk_ BK634.out), GW634.out, GE634.out, NB575_634.out, NB634_575.out, NB576_634.out, NB634_576.out, NB588_634.out, NB634_588.out, NB594_634.out, NB634_594.out, NB600_634.out, NB634_600.out, NB606_634.out, NB634_606.out, NB621_634.out, NB634_621.out, NB625_634.out, NB634_625.out, HB_⟩)
          · skip
            refine box_step ?hg (N := 28) ?hd (cs := #[.int .i64 0, .slice none 0 0]) (t := 24) ?hr ?_; (case hd => rfl); (case hg => rfl); (case hr => first | (go_simp; done) | (go_simp; rfl))
            intro gb634 hg w163 hbox hb
            have n_ := a_ (rb_ HO586 hb) (a_ (rb_ HO592 hb) (a_ (rb_ HO598 hb) (a_ (rb_ HO604 hb) (a_ (rb_ HO619 hb) (a_ (bb_ BK575 hb) (a_ (bb_ BK576 hb) (a_ (bb_ BK588 hb) (a_ (bb_ BK594 hb) (a_ (bb_ BK600 hb) (a_ (bb_ BK606 hb) (a_ (bb_ BK621 hb) (a_ (bb_ BK625 hb) (a_ (bs_ HB hb) (a_ (Aside0.mk hbox) (a_ (gs_ HB hg) (a_ (gs_ HB hg) (a_ (nl_ BK575 hg) (a_ (ng_ BK575 hg) (a_ (nl_ BK576 hg) (a_ (ng_ BK576 hg) (a_ (nl_ BK588 hg) (a_ (ng_ BK588 hg) (a_ (nl_ BK594 hg) (a_ (ng_ BK594 hg) (a_ (nl_ BK600 hg) (a_ (ng_ BK600 hg) (a_ (nl_ BK606 hg) (a_ (ng_ BK606 hg) (a_ (nl_ BK621 hg) (a_ (ng_ BK621 hg) (a_ (nl_ BK625 hg) (ng_ BK625 hg))))))))))))))))))))))))))))))))
            clear HO586 HO592 HO598 HO604 HO619 BK575 BK576 BK588 BK594 BK600 BK606 BK621 BK625 HB
            obtain ⟨HO586, HO592, HO598, HO604, HO619, BK575, BK576, BK588, BK594, BK600, BK606, BK621, BK625, HB, BK634, GW634, GE634, NB575_634, NB634_575, NB576_634, NB634_576, NB588_634, NB634_588, NB594_634, NB634_594, NB600_634, NB634_600, NB606_634, NB634_606, NB621_634, NB634_621, NB625_634, NB634_625⟩ := n_
            clear hb hbox hg
            refine hK.out _ _ ⟨(blk_cell BK575.out 0).trans rfl, (blk_cell BK575.out 1).trans rfl⟩ (fun hHeld => ?_)
            clear hK K
            refine norm_ (a' := ?_) ?_ ?_
            rotate_left
            · show Act.put _ (some 28) _ = _
              simp only [Act.put, List.setIfInBounds_toArray, List.set_cons_zero, List.set_cons_succ, i64_w, i32_w]
              rfl
            refine on_ 5 (some 173) (fun K hK => ?_)
            refine goes_ Try.func25 (by kernel_rfl) rfl #[.agg #[.int .i64 a0_0, .slice A0_1 l0_1.length c0_1], .int .i64 a3, .int .i64 a4, .int .i64 t628] (by rfl) rfl rfl MP_ ?_
            with_reducible refine (zone_Let.calls kj6 a0_0 _ _ l0_1 a3 a4 t628 t629 t630 t633 _ ?side1 ?side2 A79.out).mono ?_
            (case side1 => exact sd_ (Kd.C_below HR0_1.out HB.out))
            (case side2 => exact HC0_1.out)
            rintro e w164 ⟨v631, rfl, ho0, hb⟩
            refine ⟨_, rfl, ?_⟩
            have n_ := a_ (Aside0.mk (Kd.R_elder' (rd_ HO586.out) (Kd.R_base ho0) hb)) (a_ (Aside0.mk (Kd.R_elder' (rd_ HO592.out) (Kd.R_base ho0) hb)) (a_ (Aside0.mk (Kd.R_elder' (rd_ HO598.out) (Kd.R_base ho0) hb)) (a_ (Aside0.mk (Kd.R_elder' (rd_ HO604.out) (Kd.R_base ho0) hb)) (a_ (Aside0.mk (Kd.R_elder' (rd_ HO619.out) (Kd.R_base ho0) hb)) (a_ (Aside0.mk (Kd.R_lower (Kd.R_new' (Kd.R_new' (Kd.R_new' (Kd.R_new' (Kd.R_new' ho0 (Kd.R_lt (rd_ HO586.out))) (Kd.R_lt (rd_ HO592.out))) (Kd.R_lt (rd_ HO598.out))) (Kd.R_lt (rd_ HO604.out))) (Kd.R_lt (rd_ HO619.out))) (below_size HB_))) (a_ (bb_ BK575 hb) (a_ (bb_ BK576 hb) (a_ (bb_ BK588 hb) (a_ (bb_ BK594 hb) (a_ (bb_ BK600 hb) (a_ (bb_ BK606 hb) (a_ (bb_ BK621 hb) (a_ (bb_ BK625 hb) (a_ (bb_ BK634 hb) (bs_ HB hb)))))))))))))))
            clear HO586 HO592 HO598 HO604 HO619 BK575 BK576 BK588 BK594 BK600 BK606 BK621 BK625 BK634 HB
            obtain ⟨HO586, HO592, HO598, HO604, HO619, HO632, BK575, BK576, BK588, BK594, BK600, BK606, BK621, BK625, BK634, HB⟩ := n_
            (try clear hb)
            (try clear hb2)
            (try clear hk)
            (try clear hi)
            (try clear ho0)
            refine hK.out _ _ ⟨(blk_cell BK575.out 0).trans rfl, (blk_cell BK575.out 1).trans rfl⟩ (fun hHeld => ?_)
            clear hK K
            refine nm_ ?_
            refine pu_ 6 (some 167) ?_
            refine pu_ 7 (some 174) ?_
            refine pu_ 8 (some 175) ?_
            exact norm_ (by simp only [putAll, Act.put, List.setIfInBounds_toArray, List.set_cons_zero, List.set_cons_succ]) (hCont (v631, gb634) _ ⟨hHeld, (by (with_reducible repeat (first | apply Kd.R_alloc | apply Kd.R_drewN | apply Kd.R_drew)); exact Kd.R_mono HO586.out (fun _ hk => ⟨hk.1.1, ⟨hk.1.2.1, ⟨hk.1.2.2.1, ⟨hk.1.2.2.2, hk.2⟩⟩⟩⟩)), (by (with_reducible repeat (first | apply Kd.R_alloc | apply Kd.R_drewN | apply Kd.R_drew)); exact Kd.R_mono HO592.out (fun _ hk => ⟨hk.1.1, ⟨hk.1.2.1, ⟨hk.1.2.2.1, ⟨hk.1.2.2.2, hk.2⟩⟩⟩⟩)), (by (with_reducible repeat (first | apply Kd.R_alloc | apply Kd.R_drewN | apply Kd.R_drew)); exact Kd.R_mono HO598.out (fun _ hk => ⟨hk.1.1, ⟨hk.1.2.1, ⟨hk.1.2.2.1, ⟨hk.1.2.2.2, hk.2⟩⟩⟩⟩)), (by (with_reducible repeat (first | apply Kd.R_alloc | apply Kd.R_drewN | apply Kd.R_drew)); exact Kd.R_mono HO604.out (fun _ hk => ⟨hk.1.1, ⟨hk.1.2.1, ⟨hk.1.2.2.1, ⟨hk.1.2.2.2, hk.2⟩⟩⟩⟩)), (by (with_reducible repeat (first | apply Kd.R_alloc | apply Kd.R_drewN | apply Kd.R_drew)); exact Kd.R_mono HO619.out (fun _ hk => ⟨hk.1.1, ⟨hk.1.2.1, ⟨hk.1.2.2.1, ⟨hk.1.2.2.2, hk.2⟩⟩⟩⟩)), (by (with_reducible repeat (first | apply Kd.R_alloc | apply Kd.R_drewN | apply Kd.R_drew)); exact Kd.R_mono HO632.out (fun _ hk => ⟨hk.1.1.1.1.2, ⟨hk.1.1.1.2, ⟨hk.1.1.2, ⟨hk.1.2, hk.2⟩⟩⟩⟩)), (bk_ BK575.out), (bk_ BK576.out), (bk_ BK588.out), (bk_ BK594.out), (bk_ BK600.out), (bk_ BK606.out), (bk_ BK621.out), (bk_ BK625.out), (bk_ BK634.out), GW634.out, GE634.out, NB575_634.out, NB634_575.out, NB576_634.out, NB634_576.out, NB588_634.out, NB634_588.out, NB594_634.out, NB634_594.out, NB600_634.out, NB634_600.out, NB606_634.out, NB634_606.out, NB621_634.out, NB634_621.out, NB625_634.out, NB634_625.out, HB_⟩)
        · skip
          refine box_step ?hg (N := 28) ?hd (cs := #[.int .i64 0, .slice none 0 0]) (t := 24) ?hr ?_; (case hd => rfl); (case hg => rfl); (case hr => first | (go_simp; done) | (go_simp; rfl))
          intro gb634 hg w163 hbox hb
          have n_ := a_ (rb_ HO586 hb) (a_ (rb_ HO592 hb) (a_ (rb_ HO598 hb) (a_ (rb_ HO604 hb) (a_ (rb_ HO619 hb) (a_ (bb_ BK575 hb) (a_ (bb_ BK576 hb) (a_ (bb_ BK588 hb) (a_ (bb_ BK594 hb) (a_ (bb_ BK600 hb) (a_ (bb_ BK606 hb) (a_ (bb_ BK621 hb) (a_ (bb_ BK625 hb) (a_ (bs_ HB hb) (a_ (Aside0.mk hbox) (a_ (gs_ HB hg) (a_ (gs_ HB hg) (a_ (nl_ BK575 hg) (a_ (ng_ BK575 hg) (a_ (nl_ BK576 hg) (a_ (ng_ BK576 hg) (a_ (nl_ BK588 hg) (a_ (ng_ BK588 hg) (a_ (nl_ BK594 hg) (a_ (ng_ BK594 hg) (a_ (nl_ BK600 hg) (a_ (ng_ BK600 hg) (a_ (nl_ BK606 hg) (a_ (ng_ BK606 hg) (a_ (nl_ BK621 hg) (a_ (ng_ BK621 hg) (a_ (nl_ BK625 hg) (ng_ BK625 hg))))))))))))))))))))))))))))))))
          clear HO586 HO592 HO598 HO604 HO619 BK575 BK576 BK588 BK594 BK600 BK606 BK621 BK625 HB
          obtain ⟨HO586, HO592, HO598, HO604, HO619, BK575, BK576, BK588, BK594, BK600, BK606, BK621, BK625, HB, BK634, GW634, GE634, NB575_634, NB634_575, NB576_634, NB634_576, NB588_634, NB634_588, NB594_634, NB634_594, NB600_634, NB634_600, NB606_634, NB634_606, NB621_634, NB634_621, NB625_634, NB634_625⟩ := n_
          clear hb hbox hg
          refine hK.out _ _ ⟨(blk_cell BK575.out 0).trans rfl, (blk_cell BK575.out 1).trans rfl⟩ (fun hHeld => ?_)
          clear hK K
          refine norm_ (a' := ?_) ?_ ?_
          rotate_left
          · show Act.put _ (some 28) _ = _
            simp only [Act.put, List.setIfInBounds_toArray, List.set_cons_zero, List.set_cons_succ, i64_w, i32_w]
            rfl
          refine on_ 4 (some 172) (fun K hK => ?_)
          refine goes_ Try.func58 (by kernel_rfl) rfl #[.int .i64 a5] (by rfl) rfl rfl MP_ ?_
          with_reducible refine (warrantorref06_Clip.calls a5 t628 _ A78.out).mono ?_
          rintro e w' ⟨rfl, ⟨nd, rfl⟩⟩
          refine ⟨_, rfl, ?_⟩
          refine hK.out _ _ ⟨(blk_cell BK575.out 0).trans rfl, (blk_cell BK575.out 1).trans rfl⟩ (fun hHeld => ?_)
          clear hK K
          refine nm_ ?_
          refine on_ 5 (some 173) (fun K hK => ?_)
          refine goes_ Try.func25 (by kernel_rfl) rfl #[.agg #[.int .i64 a0_0, .slice A0_1 l0_1.length c0_1], .int .i64 a3, .int .i64 a4, .int .i64 t628] (by rfl) rfl rfl MP_ ?_
          with_reducible refine (zone_Let.calls kj6 a0_0 _ _ l0_1 a3 a4 t628 t629 t630 t633 _ ?side1 ?side2 A79.out).mono ?_
          (case side1 => repeat (first | exact (Kd.C_below HR0_1.out HB_) | (with_reducible refine Kd.C_alloc ?_ _) | (with_reducible refine Kd.C_drewN ?_ _) | (with_reducible refine Kd.C_drew ?_)))
          (case side2 => exact HC0_1.out)
          rintro e w164 ⟨v631, rfl, ho0, hb⟩
          refine ⟨_, rfl, ?_⟩
          have n_ := a_ (Aside0.mk (Kd.R_elder' (rd_ HO586.out) (Kd.R_base ho0) hb)) (a_ (Aside0.mk (Kd.R_elder' (rd_ HO592.out) (Kd.R_base ho0) hb)) (a_ (Aside0.mk (Kd.R_elder' (rd_ HO598.out) (Kd.R_base ho0) hb)) (a_ (Aside0.mk (Kd.R_elder' (rd_ HO604.out) (Kd.R_base ho0) hb)) (a_ (Aside0.mk (Kd.R_elder' (rd_ HO619.out) (Kd.R_base ho0) hb)) (a_ (Aside0.mk (Kd.R_lower (Kd.R_new' (Kd.R_new' (Kd.R_new' (Kd.R_new' (Kd.R_new' ho0 (Kd.R_lt (rd_ HO586.out))) (Kd.R_lt (rd_ HO592.out))) (Kd.R_lt (rd_ HO598.out))) (Kd.R_lt (rd_ HO604.out))) (Kd.R_lt (rd_ HO619.out))) (below_size HB_))) (a_ (bb_ BK575 hb) (a_ (bb_ BK576 hb) (a_ (bb_ BK588 hb) (a_ (bb_ BK594 hb) (a_ (bb_ BK600 hb) (a_ (bb_ BK606 hb) (a_ (bb_ BK621 hb) (a_ (bb_ BK625 hb) (a_ (bb_ BK634 hb) (bs_ HB hb)))))))))))))))
          clear HO586 HO592 HO598 HO604 HO619 BK575 BK576 BK588 BK594 BK600 BK606 BK621 BK625 BK634 HB
          obtain ⟨HO586, HO592, HO598, HO604, HO619, HO632, BK575, BK576, BK588, BK594, BK600, BK606, BK621, BK625, BK634, HB⟩ := n_
          (try clear hb)
          (try clear hb2)
          (try clear hk)
          (try clear hi)
          (try clear ho0)
          refine hK.out _ _ ⟨(blk_cell BK575.out 0).trans rfl, (blk_cell BK575.out 1).trans rfl⟩ (fun hHeld => ?_)
          clear hK K
          refine nm_ ?_
          refine pu_ 6 (some 167) ?_
          refine pu_ 7 (some 174) ?_
          refine pu_ 8 (some 175) ?_
          exact norm_ (by simp only [putAll, Act.put, List.setIfInBounds_toArray, List.set_cons_zero, List.set_cons_succ]) (hCont (v631, gb634) _ ⟨hHeld, (by (with_reducible repeat (first | apply Kd.R_alloc | apply Kd.R_drewN | apply Kd.R_drew)); exact Kd.R_mono HO586.out (fun _ hk => ⟨hk.1.1, ⟨hk.1.2.1, ⟨hk.1.2.2.1, ⟨hk.1.2.2.2, hk.2⟩⟩⟩⟩)), (by (with_reducible repeat (first | apply Kd.R_alloc | apply Kd.R_drewN | apply Kd.R_drew)); exact Kd.R_mono HO592.out (fun _ hk => ⟨hk.1.1, ⟨hk.1.2.1, ⟨hk.1.2.2.1, ⟨hk.1.2.2.2, hk.2⟩⟩⟩⟩)), (by (with_reducible repeat (first | apply Kd.R_alloc | apply Kd.R_drewN | apply Kd.R_drew)); exact Kd.R_mono HO598.out (fun _ hk => ⟨hk.1.1, ⟨hk.1.2.1, ⟨hk.1.2.2.1, ⟨hk.1.2.2.2, hk.2⟩⟩⟩⟩)), (by (with_reducible repeat (first | apply Kd.R_alloc | apply Kd.R_drewN | apply Kd.R_drew)); exact Kd.R_mono HO604.out (fun _ hk => ⟨hk.1.1, ⟨hk.1.2.1, ⟨hk.1.2.2.1, ⟨hk.1.2.2.2, hk.2⟩⟩⟩⟩)), (by (with_reducible repeat (first | apply Kd.R_alloc | apply Kd.R_drewN | apply Kd.R_drew)); exact Kd.R_mono HO619.out (fun _ hk => ⟨hk.1.1, ⟨hk.1.2.1, ⟨hk.1.2.2.1, ⟨hk.1.2.2.2, hk.2⟩⟩⟩⟩)), (by (with_reducible repeat (first | apply Kd.R_alloc | apply Kd.R_drewN | apply Kd.R_drew)); exact Kd.R_mono HO632.out (fun _ hk => ⟨hk.1.1.1.1.2, ⟨hk.1.1.1.2, ⟨hk.1.1.2, ⟨hk.1.2, hk.2⟩⟩⟩⟩)), (bk_ BK575.out), (bk_ BK576.out), (bk_ BK588.out), (bk_ BK594.out), (bk_ BK600.out), (bk_ BK606.out), (bk_ BK621.out), (bk_ BK625.out), (bk_ BK634.out), GW634.out, GE634.out, NB575_634.out, NB634_575.out, NB576_634.out, NB634_576.out, NB588_634.out, NB634_588.out, NB594_634.out, NB634_594.out, NB600_634.out, NB634_600.out, NB606_634.out, NB634_606.out, NB621_634.out, NB634_621.out, NB625_634.out, NB634_625.out, HB_⟩)
      rintro ⟨v631, gb634⟩ w165 ⟨hS_, h0_, h1_, h2_, h3_, h4_, h5_, h6_, h7_, h8_, h9_, h10_, h11_, h12_, h13_, h14_, h15_, h16_, h17_, h18_, h19_, h20_, h21_, h22_, h23_, h24_, h25_, h26_, h27_, h28_, h29_, h30_, h31_, h32_, h33_⟩
      have n0_ : Aside0 (Kd.R (Kd.int .i64) 3 w165 w.heap.size (fun k_ => some k_ ≠ (.slice Ao106 t590.length co106 : Value).ownBlock ∧ some k_ ≠ (.slice Ao116 t596.length co116 : Value).ownBlock ∧ some k_ ≠ (.slice Ao126 t602.length co126 : Value).ownBlock ∧ some k_ ≠ (.slice Ao150 t617.length co150 : Value).ownBlock ∧ some k_ ≠ (v631 : Value).ownBlock) (.slice Ao97 t584.length co97) t584) := ⟨h0_⟩
      have n1_ : Aside0 (Kd.R (Kd.int .i64) 3 w165 w.heap.size (fun k_ => some k_ ≠ (.slice Ao97 t584.length co97 : Value).ownBlock ∧ some k_ ≠ (.slice Ao116 t596.length co116 : Value).ownBlock ∧ some k_ ≠ (.slice Ao126 t602.length co126 : Value).ownBlock ∧ some k_ ≠ (.slice Ao150 t617.length co150 : Value).ownBlock ∧ some k_ ≠ (v631 : Value).ownBlock) (.slice Ao106 t590.length co106) t590) := ⟨h1_⟩
      have n2_ : Aside0 (Kd.R (Kd.int .i64) 3 w165 w.heap.size (fun k_ => some k_ ≠ (.slice Ao97 t584.length co97 : Value).ownBlock ∧ some k_ ≠ (.slice Ao106 t590.length co106 : Value).ownBlock ∧ some k_ ≠ (.slice Ao126 t602.length co126 : Value).ownBlock ∧ some k_ ≠ (.slice Ao150 t617.length co150 : Value).ownBlock ∧ some k_ ≠ (v631 : Value).ownBlock) (.slice Ao116 t596.length co116) t596) := ⟨h2_⟩
      have n3_ : Aside0 (Kd.R (Kd.int .i64) 3 w165 w.heap.size (fun k_ => some k_ ≠ (.slice Ao97 t584.length co97 : Value).ownBlock ∧ some k_ ≠ (.slice Ao106 t590.length co106 : Value).ownBlock ∧ some k_ ≠ (.slice Ao116 t596.length co116 : Value).ownBlock ∧ some k_ ≠ (.slice Ao150 t617.length co150 : Value).ownBlock ∧ some k_ ≠ (v631 : Value).ownBlock) (.slice Ao126 t602.length co126) t602) := ⟨h3_⟩
      have n4_ : Aside0 (Kd.R (Kd.int .i64) 3 w165 w.heap.size (fun k_ => some k_ ≠ (.slice Ao97 t584.length co97 : Value).ownBlock ∧ some k_ ≠ (.slice Ao106 t590.length co106 : Value).ownBlock ∧ some k_ ≠ (.slice Ao116 t596.length co116 : Value).ownBlock ∧ some k_ ≠ (.slice Ao126 t602.length co126 : Value).ownBlock ∧ some k_ ≠ (v631 : Value).ownBlock) (.slice Ao150 t617.length co150) t617) := ⟨h4_⟩
      have n5_ : Aside0 (Kd.R (Kd.int .i64) 3 w165 w.heap.size (fun k_ => some k_ ≠ (.slice Ao97 t584.length co97 : Value).ownBlock ∧ some k_ ≠ (.slice Ao106 t590.length co106 : Value).ownBlock ∧ some k_ ≠ (.slice Ao116 t596.length co116 : Value).ownBlock ∧ some k_ ≠ (.slice Ao126 t602.length co126 : Value).ownBlock ∧ some k_ ≠ (.slice Ao150 t617.length co150 : Value).ownBlock) v631 t630) := ⟨h5_⟩
      have n6_ : Aside0 (w165.heap[gb575]? = some (.cells #[.int .i64 a0_0, .slice A0_1 l0_1.length c0_1] 24 (0, 0))) := ⟨h6_⟩
      have n7_ : Aside0 (w165.heap[gb576]? = some (.cells #[.int .i64 a1_0, .slice A1_1 l1_1.length c1_1] 24 (0, 0))) := ⟨h7_⟩
      have n8_ : Aside0 (w165.heap[gb588]? = some (.cells #[.int .i64 t583, .slice Ao97 t584.length co97] 24 (0, 0))) := ⟨h8_⟩
      have n9_ : Aside0 (w165.heap[gb594]? = some (.cells #[.int .i64 t589, .slice Ao106 t590.length co106] 24 (0, 0))) := ⟨h9_⟩
      have n10_ : Aside0 (w165.heap[gb600]? = some (.cells #[.int .i64 t595, .slice Ao116 t596.length co116] 24 (0, 0))) := ⟨h10_⟩
      have n11_ : Aside0 (w165.heap[gb606]? = some (.cells #[.int .i64 t601, .slice Ao126 t602.length co126] 24 (0, 0))) := ⟨h11_⟩
      have n12_ : Aside0 (w165.heap[gb621]? = some (.cells #[.int .i64 t616, .slice Ao150 t617.length co150] 24 (0, 0))) := ⟨h12_⟩
      have n13_ : Aside0 (w165.heap[gb625]? = some (.cells #[.int .i64 t622, .int .i64 t623] 39 (0, 0))) := ⟨h13_⟩
      have n14_ : Aside0 (w165.heap[gb634]? = some (.cells #[.int .i64 0, .slice none 0 0] 24 (0, 0))) := ⟨h14_⟩
      have n15_ : Aside0 (w.heap.size ≤ gb634) := ⟨h15_⟩
      have n16_ : Aside0 (w.heap.size ≤ gb634) := ⟨h16_⟩
      have n17_ : Aside0 (gb575 ≠ gb634) := ⟨h17_⟩
      have n18_ : Aside0 (gb634 ≠ gb575) := ⟨h18_⟩
      have n19_ : Aside0 (gb576 ≠ gb634) := ⟨h19_⟩
      have n20_ : Aside0 (gb634 ≠ gb576) := ⟨h20_⟩
      have n21_ : Aside0 (gb588 ≠ gb634) := ⟨h21_⟩
      have n22_ : Aside0 (gb634 ≠ gb588) := ⟨h22_⟩
      have n23_ : Aside0 (gb594 ≠ gb634) := ⟨h23_⟩
      have n24_ : Aside0 (gb634 ≠ gb594) := ⟨h24_⟩
      have n25_ : Aside0 (gb600 ≠ gb634) := ⟨h25_⟩
      have n26_ : Aside0 (gb634 ≠ gb600) := ⟨h26_⟩
      have n27_ : Aside0 (gb606 ≠ gb634) := ⟨h27_⟩
      have n28_ : Aside0 (gb634 ≠ gb606) := ⟨h28_⟩
      have n29_ : Aside0 (gb621 ≠ gb634) := ⟨h29_⟩
      have n30_ : Aside0 (gb634 ≠ gb621) := ⟨h30_⟩
      have n31_ : Aside0 (gb625 ≠ gb634) := ⟨h31_⟩
      have n32_ : Aside0 (gb634 ≠ gb625) := ⟨h32_⟩
      have n33_ : Aside0 (Below w.heap.size w w165) := ⟨h33_⟩
      clear HO586
      clear HO592
      clear HO598
      clear HO604
      clear HO619
      clear BK575
      clear BK576
      clear BK588
      clear BK594
      clear BK600
      clear BK606
      clear BK621
      clear BK625
      clear HB
      clear h0_ h1_ h2_ h3_ h4_ h5_ h6_ h7_ h8_ h9_ h10_ h11_ h12_ h13_ h14_ h15_ h16_ h17_ h18_ h19_ h20_ h21_ h22_ h23_ h24_ h25_ h26_ h27_ h28_ h29_ h30_ h31_ h32_ h33_
      have HO586 := n0_
      have HO592 := n1_
      have HO598 := n2_
      have HO604 := n3_
      have HO619 := n4_
      have HO632 := n5_
      have BK575 := n6_
      have BK576 := n7_
      have BK588 := n8_
      have BK594 := n9_
      have BK600 := n10_
      have BK606 := n11_
      have BK621 := n12_
      have BK625 := n13_
      have BK634 := n14_
      have GW634 := n15_
      have GE634 := n16_
      have NB575_634 := n17_
      have NB634_575 := n18_
      have NB576_634 := n19_
      have NB634_576 := n20_
      have NB588_634 := n21_
      have NB634_588 := n22_
      have NB594_634 := n23_
      have NB634_594 := n24_
      have NB600_634 := n25_
      have NB634_600 := n26_
      have NB606_634 := n27_
      have NB634_606 := n28_
      have NB621_634 := n29_
      have NB634_621 := n30_
      have NB625_634 := n31_
      have NB634_625 := n32_
      have HB := n33_
      clear n0_ n1_ n2_ n3_ n4_ n5_ n6_ n7_ n8_ n9_ n10_ n11_ n12_ n13_ n14_ n15_ n16_ n17_ n18_ n19_ n20_ n21_ n22_ n23_ n24_ n25_ n26_ n27_ n28_ n29_ n30_ n31_ n32_ n33_
      have hHeld : w165.cell? ⟨gb575, 0, none⟩ = some (.int .i64 a0_0) ∧ w165.cell? ⟨gb575, 1, none⟩ = some (.slice A0_1 l0_1.length c0_1) := hS_
      obtain ⟨Ao167, co167, eo167⟩ := Kd.R_slice HO632.out
      (first | subst eo167 | (injection eo167 with f1_ f2_ f3_; have f4_ := f1_.symm; have f5_ := f3_.symm; clear f1_ f2_ f3_; subst f4_; subst f5_))
      refine norm_ (a' := ?_) ?_ ?_
      rotate_left
      · simp only [putAll, Act.put, List.setIfInBounds_toArray, List.set_cons_zero, List.set_cons_succ]
        rfl
      refine on_ 10 (none) (fun K hK => ?_)
      have hs166 : w165.cell? ⟨gb634, 0, none⟩ = some (.int .i64 0) := (blk_cell BK634.out 0).trans rfl
      have hfs166 := blk_frozen BK634.out 0
      have hns166_0 := NB575_634.out
      have hns166_1 := NB576_634.out
      have hns166_2 := NB588_634.out
      have hns166_3 := NB594_634.out
      have hns166_4 := NB600_634.out
      have hns166_5 := NB606_634.out
      have hns166_6 := NB621_634.out
      have hns166_7 := NB625_634.out
      have hms166_0 := NB634_575.out
      have hms166_1 := NB634_576.out
      have hms166_2 := NB634_588.out
      have hms166_3 := NB634_594.out
      have hms166_4 := NB634_600.out
      have hms166_5 := NB634_606.out
      have hms166_6 := NB634_621.out
      have hms166_7 := NB634_625.out
      have hs168 : w165.cell? ⟨gb634, 1, none⟩ = some (.slice none 0 0) := (blk_cell BK634.out 1).trans rfl
      have hfs168 := blk_frozen BK634.out 1
      have hns168_0 := NB575_634.out
      have hns168_1 := NB576_634.out
      have hns168_2 := NB588_634.out
      have hns168_3 := NB594_634.out
      have hns168_4 := NB600_634.out
      have hns168_5 := NB606_634.out
      have hns168_6 := NB621_634.out
      have hns168_7 := NB625_634.out
      have hms168_0 := NB634_575.out
      have hms168_1 := NB634_576.out
      have hms168_2 := NB634_588.out
      have hms168_3 := NB634_594.out
      have hms168_4 := NB634_600.out
      have hms168_5 := NB634_606.out
      have hms168_6 := NB634_621.out
      have hms168_7 := NB634_625.out
      refine skip_ (w1 := ?_) (by rfl) rfl ?_ ?_
      rotate_left
      · go_simp
        rfl
      refine hK.out _ _ ⟨((cell_far (p := ⟨gb634, _, none⟩) NB575_634.out _).trans (((cell_far (p := ⟨gb634, _, none⟩) NB575_634.out _).trans (hHeld.1)))), ((cell_far (p := ⟨gb634, _, none⟩) NB575_634.out _).trans (((cell_far (p := ⟨gb634, _, none⟩) NB575_634.out _).trans (hHeld.2))))⟩ (fun hHeld => ?_)
      clear hK K
      refine pu_ 11 (some 29) ?_
      refine done_ (done_of HT_.out (by kernel_rfl)) ?_
      try go_wp2
      have n0_ : Aside0 (Kd.R (Kd.int .i64) 3 ((w165.setCell ⟨gb634, 0, none⟩ (.int .i64 t629)).setCell ⟨gb634, 1, none⟩ (.slice Ao167 t630.length co167)) w.heap.size (fun k_ => some k_ ≠ (.slice Ao106 t590.length co106 : Value).ownBlock ∧ some k_ ≠ (.slice Ao116 t596.length co116 : Value).ownBlock ∧ some k_ ≠ (.slice Ao126 t602.length co126 : Value).ownBlock ∧ some k_ ≠ (.slice Ao150 t617.length co150 : Value).ownBlock ∧ some k_ ≠ (.slice Ao167 t630.length co167 : Value).ownBlock) (.slice Ao97 t584.length co97) t584) := ⟨by (with_reducible repeat (first | apply Kd.R_alloc | apply Kd.R_drewN | apply Kd.R_drew)); exact Kd.R_mono (Kd.R_far (p := ⟨gb634, 1, none⟩) (Kd.R_far (p := ⟨gb634, 0, none⟩) (Kd.R_types HO586.out BK634.out (by decide)) (fun _ hk => hk.2) (.int .i64 t629)) (fun _ hk => hk.2) (.slice Ao167 t630.length co167)) (fun _ hk => ⟨hk.1.1, ⟨hk.1.2.1, ⟨hk.1.2.2.1, ⟨hk.1.2.2.2.1, hk.1.2.2.2.2⟩⟩⟩⟩)⟩
      have n1_ : Aside0 (Kd.R (Kd.int .i64) 3 ((w165.setCell ⟨gb634, 0, none⟩ (.int .i64 t629)).setCell ⟨gb634, 1, none⟩ (.slice Ao167 t630.length co167)) w.heap.size (fun k_ => some k_ ≠ (.slice Ao97 t584.length co97 : Value).ownBlock ∧ some k_ ≠ (.slice Ao116 t596.length co116 : Value).ownBlock ∧ some k_ ≠ (.slice Ao126 t602.length co126 : Value).ownBlock ∧ some k_ ≠ (.slice Ao150 t617.length co150 : Value).ownBlock ∧ some k_ ≠ (.slice Ao167 t630.length co167 : Value).ownBlock) (.slice Ao106 t590.length co106) t590) := ⟨by (with_reducible repeat (first | apply Kd.R_alloc | apply Kd.R_drewN | apply Kd.R_drew)); exact Kd.R_mono (Kd.R_far (p := ⟨gb634, 1, none⟩) (Kd.R_far (p := ⟨gb634, 0, none⟩) (Kd.R_types HO592.out BK634.out (by decide)) (fun _ hk => hk.2) (.int .i64 t629)) (fun _ hk => hk.2) (.slice Ao167 t630.length co167)) (fun _ hk => ⟨hk.1.1, ⟨hk.1.2.1, ⟨hk.1.2.2.1, ⟨hk.1.2.2.2.1, hk.1.2.2.2.2⟩⟩⟩⟩)⟩
      have n2_ : Aside0 (Kd.R (Kd.int .i64) 3 ((w165.setCell ⟨gb634, 0, none⟩ (.int .i64 t629)).setCell ⟨gb634, 1, none⟩ (.slice Ao167 t630.length co167)) w.heap.size (fun k_ => some k_ ≠ (.slice Ao97 t584.length co97 : Value).ownBlock ∧ some k_ ≠ (.slice Ao106 t590.length co106 : Value).ownBlock ∧ some k_ ≠ (.slice Ao126 t602.length co126 : Value).ownBlock ∧ some k_ ≠ (.slice Ao150 t617.length co150 : Value).ownBlock ∧ some k_ ≠ (.slice Ao167 t630.length co167 : Value).ownBlock) (.slice Ao116 t596.length co116) t596) := ⟨by (with_reducible repeat (first | apply Kd.R_alloc | apply Kd.R_drewN | apply Kd.R_drew)); exact Kd.R_mono (Kd.R_far (p := ⟨gb634, 1, none⟩) (Kd.R_far (p := ⟨gb634, 0, none⟩) (Kd.R_types HO598.out BK634.out (by decide)) (fun _ hk => hk.2) (.int .i64 t629)) (fun _ hk => hk.2) (.slice Ao167 t630.length co167)) (fun _ hk => ⟨hk.1.1, ⟨hk.1.2.1, ⟨hk.1.2.2.1, ⟨hk.1.2.2.2.1, hk.1.2.2.2.2⟩⟩⟩⟩)⟩
      have n3_ : Aside0 (Kd.R (Kd.int .i64) 3 ((w165.setCell ⟨gb634, 0, none⟩ (.int .i64 t629)).setCell ⟨gb634, 1, none⟩ (.slice Ao167 t630.length co167)) w.heap.size (fun k_ => some k_ ≠ (.slice Ao97 t584.length co97 : Value).ownBlock ∧ some k_ ≠ (.slice Ao106 t590.length co106 : Value).ownBlock ∧ some k_ ≠ (.slice Ao116 t596.length co116 : Value).ownBlock ∧ some k_ ≠ (.slice Ao150 t617.length co150 : Value).ownBlock ∧ some k_ ≠ (.slice Ao167 t630.length co167 : Value).ownBlock) (.slice Ao126 t602.length co126) t602) := ⟨by (with_reducible repeat (first | apply Kd.R_alloc | apply Kd.R_drewN | apply Kd.R_drew)); exact Kd.R_mono (Kd.R_far (p := ⟨gb634, 1, none⟩) (Kd.R_far (p := ⟨gb634, 0, none⟩) (Kd.R_types HO604.out BK634.out (by decide)) (fun _ hk => hk.2) (.int .i64 t629)) (fun _ hk => hk.2) (.slice Ao167 t630.length co167)) (fun _ hk => ⟨hk.1.1, ⟨hk.1.2.1, ⟨hk.1.2.2.1, ⟨hk.1.2.2.2.1, hk.1.2.2.2.2⟩⟩⟩⟩)⟩
      have n4_ : Aside0 (Kd.R (Kd.int .i64) 3 ((w165.setCell ⟨gb634, 0, none⟩ (.int .i64 t629)).setCell ⟨gb634, 1, none⟩ (.slice Ao167 t630.length co167)) w.heap.size (fun k_ => some k_ ≠ (.slice Ao97 t584.length co97 : Value).ownBlock ∧ some k_ ≠ (.slice Ao106 t590.length co106 : Value).ownBlock ∧ some k_ ≠ (.slice Ao116 t596.length co116 : Value).ownBlock ∧ some k_ ≠ (.slice Ao126 t602.length co126 : Value).ownBlock ∧ some k_ ≠ (.slice Ao167 t630.length co167 : Value).ownBlock) (.slice Ao150 t617.length co150) t617) := ⟨by (with_reducible repeat (first | apply Kd.R_alloc | apply Kd.R_drewN | apply Kd.R_drew)); exact Kd.R_mono (Kd.R_far (p := ⟨gb634, 1, none⟩) (Kd.R_far (p := ⟨gb634, 0, none⟩) (Kd.R_types HO619.out BK634.out (by decide)) (fun _ hk => hk.2) (.int .i64 t629)) (fun _ hk => hk.2) (.slice Ao167 t630.length co167)) (fun _ hk => ⟨hk.1.1, ⟨hk.1.2.1, ⟨hk.1.2.2.1, ⟨hk.1.2.2.2.1, hk.1.2.2.2.2⟩⟩⟩⟩)⟩
      have n5_ : Aside0 (Kd.R (Kd.int .i64) 3 ((w165.setCell ⟨gb634, 0, none⟩ (.int .i64 t629)).setCell ⟨gb634, 1, none⟩ (.slice Ao167 t630.length co167)) w.heap.size (fun k_ => some k_ ≠ (.slice Ao97 t584.length co97 : Value).ownBlock ∧ some k_ ≠ (.slice Ao106 t590.length co106 : Value).ownBlock ∧ some k_ ≠ (.slice Ao116 t596.length co116 : Value).ownBlock ∧ some k_ ≠ (.slice Ao126 t602.length co126 : Value).ownBlock ∧ some k_ ≠ (.slice Ao150 t617.length co150 : Value).ownBlock) (.slice Ao167 t630.length co167) t630) := ⟨by (with_reducible repeat (first | apply Kd.R_alloc | apply Kd.R_drewN | apply Kd.R_drew)); exact Kd.R_mono (Kd.R_far (p := ⟨gb634, 1, none⟩) (Kd.R_far (p := ⟨gb634, 0, none⟩) (Kd.R_types HO632.out BK634.out (by decide)) (fun _ hk => hk.2) (.int .i64 t629)) (fun _ hk => hk.2) (.slice Ao167 t630.length co167)) (fun _ hk => ⟨hk.1.1, ⟨hk.1.2.1, ⟨hk.1.2.2.1, ⟨hk.1.2.2.2.1, hk.1.2.2.2.2⟩⟩⟩⟩)⟩
      have n6_ : Aside0 (((w165.setCell ⟨gb634, 0, none⟩ (.int .i64 t629)).setCell ⟨gb634, 1, none⟩ (.slice Ao167 t630.length co167)).heap[gb575]? = some (.cells #[.int .i64 a0_0, .slice A0_1 l0_1.length c0_1] 24 (0, 0))) := ⟨by (with_reducible repeat (first | refine blk_drewN ?_ _ | refine blk_drew ?_ | refine blk_alloc ?_ _)); refine blk_far ?_ NB575_634.out _; (with_reducible repeat (first | refine blk_drewN ?_ _ | refine blk_drew ?_ | refine blk_alloc ?_ _)); refine blk_far ?_ NB575_634.out _; (with_reducible repeat (first | refine blk_drewN ?_ _ | refine blk_drew ?_ | refine blk_alloc ?_ _)); exact BK575.out⟩
      have n7_ : Aside0 (((w165.setCell ⟨gb634, 0, none⟩ (.int .i64 t629)).setCell ⟨gb634, 1, none⟩ (.slice Ao167 t630.length co167)).heap[gb576]? = some (.cells #[.int .i64 a1_0, .slice A1_1 l1_1.length c1_1] 24 (0, 0))) := ⟨by (with_reducible repeat (first | refine blk_drewN ?_ _ | refine blk_drew ?_ | refine blk_alloc ?_ _)); refine blk_far ?_ NB576_634.out _; (with_reducible repeat (first | refine blk_drewN ?_ _ | refine blk_drew ?_ | refine blk_alloc ?_ _)); refine blk_far ?_ NB576_634.out _; (with_reducible repeat (first | refine blk_drewN ?_ _ | refine blk_drew ?_ | refine blk_alloc ?_ _)); exact BK576.out⟩
      have n8_ : Aside0 (((w165.setCell ⟨gb634, 0, none⟩ (.int .i64 t629)).setCell ⟨gb634, 1, none⟩ (.slice Ao167 t630.length co167)).heap[gb588]? = some (.cells #[.int .i64 t583, .slice Ao97 t584.length co97] 24 (0, 0))) := ⟨by (with_reducible repeat (first | refine blk_drewN ?_ _ | refine blk_drew ?_ | refine blk_alloc ?_ _)); refine blk_far ?_ NB588_634.out _; (with_reducible repeat (first | refine blk_drewN ?_ _ | refine blk_drew ?_ | refine blk_alloc ?_ _)); refine blk_far ?_ NB588_634.out _; (with_reducible repeat (first | refine blk_drewN ?_ _ | refine blk_drew ?_ | refine blk_alloc ?_ _)); exact BK588.out⟩
      have n9_ : Aside0 (((w165.setCell ⟨gb634, 0, none⟩ (.int .i64 t629)).setCell ⟨gb634, 1, none⟩ (.slice Ao167 t630.length co167)).heap[gb594]? = some (.cells #[.int .i64 t589, .slice Ao106 t590.length co106] 24 (0, 0))) := ⟨by (with_reducible repeat (first | refine blk_drewN ?_ _ | refine blk_drew ?_ | refine blk_alloc ?_ _)); refine blk_far ?_ NB594_634.out _; (with_reducible repeat (first | refine blk_drewN ?_ _ | refine blk_drew ?_ | refine blk_alloc ?_ _)); refine blk_far ?_ NB594_634.out _; (with_reducible repeat (first | refine blk_drewN ?_ _ | refine blk_drew ?_ | refine blk_alloc ?_ _)); exact BK594.out⟩
      have n10_ : Aside0 (((w165.setCell ⟨gb634, 0, none⟩ (.int .i64 t629)).setCell ⟨gb634, 1, none⟩ (.slice Ao167 t630.length co167)).heap[gb600]? = some (.cells #[.int .i64 t595, .slice Ao116 t596.length co116] 24 (0, 0))) := ⟨by (with_reducible repeat (first | refine blk_drewN ?_ _ | refine blk_drew ?_ | refine blk_alloc ?_ _)); refine blk_far ?_ NB600_634.out _; (with_reducible repeat (first | refine blk_drewN ?_ _ | refine blk_drew ?_ | refine blk_alloc ?_ _)); refine blk_far ?_ NB600_634.out _; (with_reducible repeat (first | refine blk_drewN ?_ _ | refine blk_drew ?_ | refine blk_alloc ?_ _)); exact BK600.out⟩
      have n11_ : Aside0 (((w165.setCell ⟨gb634, 0, none⟩ (.int .i64 t629)).setCell ⟨gb634, 1, none⟩ (.slice Ao167 t630.length co167)).heap[gb606]? = some (.cells #[.int .i64 t601, .slice Ao126 t602.length co126] 24 (0, 0))) := ⟨by (with_reducible repeat (first | refine blk_drewN ?_ _ | refine blk_drew ?_ | refine blk_alloc ?_ _)); refine blk_far ?_ NB606_634.out _; (with_reducible repeat (first | refine blk_drewN ?_ _ | refine blk_drew ?_ | refine blk_alloc ?_ _)); refine blk_far ?_ NB606_634.out _; (with_reducible repeat (first | refine blk_drewN ?_ _ | refine blk_drew ?_ | refine blk_alloc ?_ _)); exact BK606.out⟩
      have n12_ : Aside0 (((w165.setCell ⟨gb634, 0, none⟩ (.int .i64 t629)).setCell ⟨gb634, 1, none⟩ (.slice Ao167 t630.length co167)).heap[gb621]? = some (.cells #[.int .i64 t616, .slice Ao150 t617.length co150] 24 (0, 0))) := ⟨by (with_reducible repeat (first | refine blk_drewN ?_ _ | refine blk_drew ?_ | refine blk_alloc ?_ _)); refine blk_far ?_ NB621_634.out _; (with_reducible repeat (first | refine blk_drewN ?_ _ | refine blk_drew ?_ | refine blk_alloc ?_ _)); refine blk_far ?_ NB621_634.out _; (with_reducible repeat (first | refine blk_drewN ?_ _ | refine blk_drew ?_ | refine blk_alloc ?_ _)); exact BK621.out⟩
      have n13_ : Aside0 (((w165.setCell ⟨gb634, 0, none⟩ (.int .i64 t629)).setCell ⟨gb634, 1, none⟩ (.slice Ao167 t630.length co167)).heap[gb625]? = some (.cells #[.int .i64 t622, .int .i64 t623] 39 (0, 0))) := ⟨by (with_reducible repeat (first | refine blk_drewN ?_ _ | refine blk_drew ?_ | refine blk_alloc ?_ _)); refine blk_far ?_ NB625_634.out _; (with_reducible repeat (first | refine blk_drewN ?_ _ | refine blk_drew ?_ | refine blk_alloc ?_ _)); refine blk_far ?_ NB625_634.out _; (with_reducible repeat (first | refine blk_drewN ?_ _ | refine blk_drew ?_ | refine blk_alloc ?_ _)); exact BK625.out⟩
      have n14_ : Aside0 (((w165.setCell ⟨gb634, 0, none⟩ (.int .i64 t629)).setCell ⟨gb634, 1, none⟩ (.slice Ao167 t630.length co167)).heap[gb634]? = some (.cells #[.int .i64 t629, .slice Ao167 t630.length co167] 24 (0, 0))) := ⟨by (with_reducible repeat (first | refine blk_drewN ?_ _ | refine blk_drew ?_ | refine blk_alloc ?_ _)); refine blk_put (cs := #[.int .i64 t629, .slice none 0 0]) ?_ 1 _ rfl; (with_reducible repeat (first | refine blk_drewN ?_ _ | refine blk_drew ?_ | refine blk_alloc ?_ _)); refine blk_put (cs := #[.int .i64 0, .slice none 0 0]) ?_ 0 _ rfl; (with_reducible repeat (first | refine blk_drewN ?_ _ | refine blk_drew ?_ | refine blk_alloc ?_ _)); exact BK634.out⟩
      have n15_ : Aside0 (Below w.heap.size w ((w165.setCell ⟨gb634, 0, none⟩ (.int .i64 t629)).setCell ⟨gb634, 1, none⟩ (.slice Ao167 t630.length co167))) := ⟨HB_⟩
      (try clear HO586)
      (try clear HO592)
      (try clear HO598)
      (try clear HO604)
      (try clear HO619)
      (try clear HO632)
      (try clear BK575)
      (try clear BK576)
      (try clear BK588)
      (try clear BK594)
      (try clear BK600)
      (try clear BK606)
      (try clear BK621)
      (try clear BK625)
      (try clear BK634)
      (try clear HB)
      generalize ((w165.setCell ⟨gb634, 0, none⟩ (.int .i64 t629)).setCell ⟨gb634, 1, none⟩ (.slice Ao167 t630.length co167)) = w169 at n0_ n1_ n2_ n3_ n4_ n5_ n6_ n7_ n8_ n9_ n10_ n11_ n12_ n13_ n14_ n15_ ⊢
      have HO586 := n0_
      have HO592 := n1_
      have HO598 := n2_
      have HO604 := n3_
      have HO619 := n4_
      have HO632 := n5_
      have BK575 := n6_
      have BK576 := n7_
      have BK588 := n8_
      have BK594 := n9_
      have BK600 := n10_
      have BK606 := n11_
      have BK621 := n12_
      have BK625 := n13_
      have BK634 := n14_
      have HB := n15_
      clear n0_ n1_ n2_ n3_ n4_ n5_ n6_ n7_ n8_ n9_ n10_ n11_ n12_ n13_ n14_ n15_
      have n_ := a_ (Aside0.mk (Kd.R_drew HO586.out)) (a_ (Aside0.mk (Kd.R_drew HO592.out)) (a_ (Aside0.mk (Kd.R_drew HO598.out)) (a_ (Aside0.mk (Kd.R_drew HO604.out)) (a_ (Aside0.mk (Kd.R_drew HO619.out)) (a_ (Aside0.mk (Kd.R_drew HO632.out)) (a_ (Aside0.mk (blk_drew BK575.out)) (a_ (Aside0.mk (blk_drew BK576.out)) (a_ (Aside0.mk (blk_drew BK588.out)) (a_ (Aside0.mk (blk_drew BK594.out)) (a_ (Aside0.mk (blk_drew BK600.out)) (a_ (Aside0.mk (blk_drew BK606.out)) (a_ (Aside0.mk (blk_drew BK621.out)) (a_ (Aside0.mk (blk_drew BK625.out)) (a_ (Aside0.mk (blk_drew BK634.out)) (Aside0.mk (below_drew1 HB.out))))))))))))))))
      clear HO586 HO592 HO598 HO604 HO619 HO632 BK575 BK576 BK588 BK594 BK600 BK606 BK621 BK625 BK634 HB
      obtain ⟨HO586, HO592, HO598, HO604, HO619, HO632, BK575, BK576, BK588, BK594, BK600, BK606, BK621, BK625, BK634, HB⟩ := n_
      refine start_ (n := 24) (S := fun w' => w'.cell? ⟨gb625, 0, none⟩ = some (.int .i64 t622) ∧ w'.cell? ⟨gb625, 1, none⟩ = some (.int .i64 t623) ∧ w'.cell? ⟨gb621, 0, none⟩ = some (.int .i64 t616) ∧ w'.cell? ⟨gb621, 1, none⟩ = some (.slice Ao150 t617.length co150) ∧ w'.cell? ⟨gb634, 0, none⟩ = some (.int .i64 t629) ∧ w'.cell? ⟨gb634, 1, none⟩ = some (.slice Ao167 t630.length co167)) (ds := []) #[false, false, false, false, false, false, false, false, false, false, false, false, false, false, false, false, false, false, false, false, false, false, false, false] (by kernel_rfl) rfl rfl ⟨(blk_cell BK625.out 0).trans rfl, (blk_cell BK625.out 1).trans rfl, (blk_cell BK621.out 0).trans rfl, (blk_cell BK621.out 1).trans rfl, (blk_cell BK634.out 0).trans rfl, (blk_cell BK634.out 1).trans rfl⟩ (fun hHeld => ?_); refine with_tabW warrantorlaw09_ZoneHas_v0.tab18 warrantorlaw09_ZoneHas_v0.bits18 (fun HT_ HW_ => ?_)
      generalize w169.drew = w170 at HO586 HO592 HO598 HO604 HO619 HO632 BK575 BK576 BK588 BK594 BK600 BK606 BK621 BK625 BK634 HB hHeld ⊢
      refine take_ (i := 0) (N := some 176) (v := ?_) (a' := ?_) #[true, false, false, false, false, false, false, false, false, false, false, false, false, false, false, false, false, false, false, false, false, false, false, false] rfl rfl (take_ofW HT_.out HW_.out (by kernel_rfl)) (fun _ _ _ h => h) (Or.inl ⟨by rfl, ?_⟩) hHeld ?_ ?_
      rotate_left
      · rintro w' ⟨s0, s1, s2, s3, s4, s5⟩
        go_simp
        with_reducible rfl
      rotate_left
      · exact AP_
      refine on_ 1 (some 177) (fun K hK => ?_)
      refine goes_ Try.func59 (by kernel_rfl) rfl #[] (by rfl) rfl rfl MP_ ?_
      with_reducible refine (itv_All.calls  t635 t636 _ A80.out).mono ?_
      rintro e w171 ⟨rfl, hb⟩
      refine ⟨_, rfl, ?_⟩
      have n_ := a_ (rb_ HO586 hb) (a_ (rb_ HO592 hb) (a_ (rb_ HO598 hb) (a_ (rb_ HO604 hb) (a_ (rb_ HO619 hb) (a_ (rb_ HO632 hb) (a_ (bb_ BK575 hb) (a_ (bb_ BK576 hb) (a_ (bb_ BK588 hb) (a_ (bb_ BK594 hb) (a_ (bb_ BK600 hb) (a_ (bb_ BK606 hb) (a_ (bb_ BK621 hb) (a_ (bb_ BK625 hb) (a_ (bb_ BK634 hb) (bs_ HB hb)))))))))))))))
      clear HO586 HO592 HO598 HO604 HO619 HO632 BK575 BK576 BK588 BK594 BK600 BK606 BK621 BK625 BK634 HB
      obtain ⟨HO586, HO592, HO598, HO604, HO619, HO632, BK575, BK576, BK588, BK594, BK600, BK606, BK621, BK625, BK634, HB⟩ := n_
      (try clear hb)
      (try clear hb2)
      (try clear hk)
      (try clear hi)
      refine hK.out _ _ ⟨(blk_cell BK625.out 0).trans rfl, (blk_cell BK625.out 1).trans rfl, (blk_cell BK621.out 0).trans rfl, (blk_cell BK621.out 1).trans rfl, (blk_cell BK634.out 0).trans rfl, (blk_cell BK634.out 1).trans rfl⟩ (fun hHeld => ?_)
      clear hK K
      refine nm_ ?_
      refine pu_ 2 (some 178) ?_
      refine pu_ 3 (some 179) ?_
      refine pu_ 5 (some 181) ?_
      refine pu_ 6 (some 182) ?_
      refine pu_ 7 (some 183) ?_
      refine take_ (i := 4) (N := some 180) (v := ?_) (a' := ?_) #[true, true, true, true, true, true, true, true, false, false, false, false, false, false, false, false, false, false, false, false, false, false, false, false] rfl rfl (take_ofW HT_.out HW_.out (by kernel_rfl)) (fun _ _ _ h => h) (Or.inl ⟨by rfl, ?_⟩) hHeld ?_ ?_
      rotate_left
      · rintro w' ⟨s0, s1, s2, s3, s4, s5⟩
        go_simp
        with_reducible rfl
      rotate_left
      · exact AP_
      refine on_ 8 (some 184) (fun K hK => ?_)
      refine goes_ Try.func58 (by kernel_rfl) rfl #[.int .i64 a5] (by rfl) rfl rfl MP_ ?_
      with_reducible refine (warrantorref06_Clip.calls a5 t637 _ A82.out).mono ?_
      rintro e w' ⟨rfl, ⟨nd, rfl⟩⟩
      refine ⟨_, rfl, ?_⟩
      refine hK.out _ _ ⟨(blk_cell BK625.out 0).trans rfl, (blk_cell BK625.out 1).trans rfl, (blk_cell BK621.out 0).trans rfl, (blk_cell BK621.out 1).trans rfl, (blk_cell BK634.out 0).trans rfl, (blk_cell BK634.out 1).trans rfl⟩ (fun hHeld => ?_)
      clear hK K
      refine nm_ ?_
      refine on_ 9 (some 185) (fun K hK => ?_)
      refine goes_ Try.func46 (by kernel_rfl) rfl #[.slice A2 l2.length c2, .int .i64 a3, .int .i64 t637] (by rfl) rfl rfl MP_ ?_
      with_reducible refine (warrantorlaw09_with.calls _ _ l2 a3 t637 t638 _ ?side1 ?side2 A83.out).mono ?_
      (case side1 => repeat (first | exact (Kd.C_below HR2.out HB_) | (with_reducible refine Kd.C_alloc ?_ _) | (with_reducible refine Kd.C_drewN ?_ _) | (with_reducible refine Kd.C_drew ?_)))
      (case side2 => exact HC2.out)
      rintro e w172 ⟨v639, rfl, ho0, hb⟩
      refine ⟨_, rfl, ?_⟩
      have n_ := a_ (Aside0.mk (Kd.R_elder' (rd_ HO586.out) (Kd.R_base ho0) hb)) (a_ (Aside0.mk (Kd.R_elder' (rd_ HO592.out) (Kd.R_base ho0) hb)) (a_ (Aside0.mk (Kd.R_elder' (rd_ HO598.out) (Kd.R_base ho0) hb)) (a_ (Aside0.mk (Kd.R_elder' (rd_ HO604.out) (Kd.R_base ho0) hb)) (a_ (Aside0.mk (Kd.R_elder' (rd_ HO619.out) (Kd.R_base ho0) hb)) (a_ (Aside0.mk (Kd.R_elder' (rd_ HO632.out) (Kd.R_base ho0) hb)) (a_ (Aside0.mk (Kd.R_lower (Kd.R_new' (Kd.R_new' (Kd.R_new' (Kd.R_new' (Kd.R_new' (Kd.R_new' ho0 (Kd.R_lt (rd_ HO586.out))) (Kd.R_lt (rd_ HO592.out))) (Kd.R_lt (rd_ HO598.out))) (Kd.R_lt (rd_ HO604.out))) (Kd.R_lt (rd_ HO619.out))) (Kd.R_lt (rd_ HO632.out))) (below_size HB_))) (a_ (bb_ BK575 hb) (a_ (bb_ BK576 hb) (a_ (bb_ BK588 hb) (a_ (bb_ BK594 hb) (a_ (bb_ BK600 hb) (a_ (bb_ BK606 hb) (a_ (bb_ BK621 hb) (a_ (bb_ BK625 hb) (a_ (bb_ BK634 hb) (bs_ HB hb))))))))))))))))
      clear HO586 HO592 HO598 HO604 HO619 HO632 BK575 BK576 BK588 BK594 BK600 BK606 BK621 BK625 BK634 HB
      obtain ⟨HO586, HO592, HO598, HO604, HO619, HO632, HO640, BK575, BK576, BK588, BK594, BK600, BK606, BK621, BK625, BK634, HB⟩ := n_
      (try clear hb)
      (try clear hb2)
      (try clear hk)
      (try clear hi)
      (try clear ho0)
      obtain ⟨Ao173, co173, eo173⟩ := Kd.R_slice HO640.out
      (first | subst eo173 | (injection eo173 with f1_ f2_ f3_; have f4_ := f1_.symm; have f5_ := f3_.symm; clear f1_ f2_ f3_; subst f4_; subst f5_))
      refine hK.out _ _ ⟨(blk_cell BK625.out 0).trans rfl, (blk_cell BK625.out 1).trans rfl, (blk_cell BK621.out 0).trans rfl, (blk_cell BK621.out 1).trans rfl, (blk_cell BK634.out 0).trans rfl, (blk_cell BK634.out 1).trans rfl⟩ (fun hHeld => ?_)
      clear hK K
      refine nm_ ?_
      refine on_ 10 (some 186) (fun K hK => ?_)
      refine goes_ Try.func45 (by kernel_rfl) rfl #[.agg #[.int .i64 t616, .slice Ao150 t617.length co150], .slice Ao173 t638.length co173] (by rfl) rfl rfl MP_ ?_
      with_reducible refine (dbm_Has.calls kj6 t616 _ _ t617 _ _ t638 true _ ?side1 ?side2 ?side3 ?side4 A84.out).mono ?_
      (case side1 => repeat (first | exact (Kd.R_reads' HO619.out).2.2 | (with_reducible refine Kd.C_alloc ?_ _) | (with_reducible refine Kd.C_drewN ?_ _) | (with_reducible refine Kd.C_drew ?_)))
      (case side2 => exact (Kd.R_reads' HO619.out).2.1)
      (case side3 => repeat (first | exact (Kd.R_reads' HO640.out).2.2 | (with_reducible refine Kd.C_alloc ?_ _) | (with_reducible refine Kd.C_drewN ?_ _) | (with_reducible refine Kd.C_drew ?_)))
      (case side4 => exact (Kd.R_reads' HO640.out).2.1)
      rintro e w174 ⟨rfl, hb⟩
      refine ⟨_, rfl, ?_⟩
      have n_ := a_ (rb_ HO586 hb) (a_ (rb_ HO592 hb) (a_ (rb_ HO598 hb) (a_ (rb_ HO604 hb) (a_ (rb_ HO619 hb) (a_ (rb_ HO632 hb) (a_ (rb_ HO640 hb) (a_ (bb_ BK575 hb) (a_ (bb_ BK576 hb) (a_ (bb_ BK588 hb) (a_ (bb_ BK594 hb) (a_ (bb_ BK600 hb) (a_ (bb_ BK606 hb) (a_ (bb_ BK621 hb) (a_ (bb_ BK625 hb) (a_ (bb_ BK634 hb) (bs_ HB hb))))))))))))))))
      clear HO586 HO592 HO598 HO604 HO619 HO632 HO640 BK575 BK576 BK588 BK594 BK600 BK606 BK621 BK625 BK634 HB
      obtain ⟨HO586, HO592, HO598, HO604, HO619, HO632, HO640, BK575, BK576, BK588, BK594, BK600, BK606, BK621, BK625, BK634, HB⟩ := n_
      (try clear hb)
      (try clear hb2)
      (try clear hk)
      (try clear hi)
      refine hK.out _ _ ⟨(blk_cell BK625.out 0).trans rfl, (blk_cell BK625.out 1).trans rfl, (blk_cell BK621.out 0).trans rfl, (blk_cell BK621.out 1).trans rfl, (blk_cell BK634.out 0).trans rfl, (blk_cell BK634.out 1).trans rfl⟩ (fun hHeld => ?_)
      clear hK K
      refine nm_ ?_
      refine pu_ 11 (some 187) ?_
      refine pu_ 12 (some 188) ?_
      refine pu_ 14 (some 190) ?_
      refine pu_ 15 (some 191) ?_
      refine pu_ 16 (some 192) ?_
      refine pu_ 19 (some 195) ?_
      refine take_ (i := 13) (N := some 189) (v := ?_) (a' := ?_) #[true, true, true, true, true, true, true, true, true, true, true, true, true, true, true, true, true, false, false, true, false, false, false, false] rfl rfl (take_ofW HT_.out HW_.out (by kernel_rfl)) (fun _ _ _ h => h) (Or.inl ⟨by rfl, ?_⟩) hHeld ?_ ?_
      rotate_left
      · rintro w' ⟨s0, s1, s2, s3, s4, s5⟩
        go_simp
        with_reducible rfl
      rotate_left
      · exact AP_
      refine on_ 17 (some 193) (fun K hK => ?_)
      refine goes_ Try.func46 (by kernel_rfl) rfl #[.slice A2 l2.length c2, .int .i64 a3, .int .i64 (wrap64 (t626 + t627))] (by rfl) rfl rfl MP_ ?_
      with_reducible refine (warrantorlaw09_with.calls _ _ l2 a3 (wrap64 (t626 + t627)) t642 _ ?side1 ?side2 A86.out).mono ?_
      (case side1 => exact sd_ (Kd.C_below HR2.out HB.out))
      (case side2 => exact HC2.out)
      rintro e w175 ⟨v643, rfl, ho0, hb⟩
      refine ⟨_, rfl, ?_⟩
      have n_ := a_ (Aside0.mk (Kd.R_elder' (rd_ HO586.out) (Kd.R_base ho0) hb)) (a_ (Aside0.mk (Kd.R_elder' (rd_ HO592.out) (Kd.R_base ho0) hb)) (a_ (Aside0.mk (Kd.R_elder' (rd_ HO598.out) (Kd.R_base ho0) hb)) (a_ (Aside0.mk (Kd.R_elder' (rd_ HO604.out) (Kd.R_base ho0) hb)) (a_ (Aside0.mk (Kd.R_elder' (rd_ HO619.out) (Kd.R_base ho0) hb)) (a_ (Aside0.mk (Kd.R_elder' (rd_ HO632.out) (Kd.R_base ho0) hb)) (a_ (Aside0.mk (Kd.R_elder' (rd_ HO640.out) (Kd.R_base ho0) hb)) (a_ (Aside0.mk (Kd.R_lower (Kd.R_new' (Kd.R_new' (Kd.R_new' (Kd.R_new' (Kd.R_new' (Kd.R_new' (Kd.R_new' ho0 (Kd.R_lt (rd_ HO586.out))) (Kd.R_lt (rd_ HO592.out))) (Kd.R_lt (rd_ HO598.out))) (Kd.R_lt (rd_ HO604.out))) (Kd.R_lt (rd_ HO619.out))) (Kd.R_lt (rd_ HO632.out))) (Kd.R_lt (rd_ HO640.out))) (below_size HB_))) (a_ (bb_ BK575 hb) (a_ (bb_ BK576 hb) (a_ (bb_ BK588 hb) (a_ (bb_ BK594 hb) (a_ (bb_ BK600 hb) (a_ (bb_ BK606 hb) (a_ (bb_ BK621 hb) (a_ (bb_ BK625 hb) (a_ (bb_ BK634 hb) (bs_ HB hb)))))))))))))))))
      clear HO586 HO592 HO598 HO604 HO619 HO632 HO640 BK575 BK576 BK588 BK594 BK600 BK606 BK621 BK625 BK634 HB
      obtain ⟨HO586, HO592, HO598, HO604, HO619, HO632, HO640, HO644, BK575, BK576, BK588, BK594, BK600, BK606, BK621, BK625, BK634, HB⟩ := n_
      (try clear hb)
      (try clear hb2)
      (try clear hk)
      (try clear hi)
      (try clear ho0)
      obtain ⟨Ao176, co176, eo176⟩ := Kd.R_slice HO644.out
      (first | subst eo176 | (injection eo176 with f1_ f2_ f3_; have f4_ := f1_.symm; have f5_ := f3_.symm; clear f1_ f2_ f3_; subst f4_; subst f5_))
      refine hK.out _ _ ⟨(blk_cell BK625.out 0).trans rfl, (blk_cell BK625.out 1).trans rfl, (blk_cell BK621.out 0).trans rfl, (blk_cell BK621.out 1).trans rfl, (blk_cell BK634.out 0).trans rfl, (blk_cell BK634.out 1).trans rfl⟩ (fun hHeld => ?_)
      clear hK K
      refine nm_ ?_
      refine on_ 18 (some 194) (fun K hK => ?_)
      refine goes_ Try.func45 (by kernel_rfl) rfl #[.agg #[.int .i64 t629, .slice Ao167 t630.length co167], .slice Ao176 t642.length co176] (by rfl) rfl rfl MP_ ?_
      with_reducible refine (dbm_Has.calls kj6 t629 _ _ t630 _ _ t642 t645 _ ?side1 ?side2 ?side3 ?side4 A87.out).mono ?_
      (case side1 => repeat (first | exact (Kd.R_reads' HO632.out).2.2 | (with_reducible refine Kd.C_alloc ?_ _) | (with_reducible refine Kd.C_drewN ?_ _) | (with_reducible refine Kd.C_drew ?_)))
      (case side2 => exact (Kd.R_reads' HO632.out).2.1)
      (case side3 => repeat (first | exact (Kd.R_reads' HO644.out).2.2 | (with_reducible refine Kd.C_alloc ?_ _) | (with_reducible refine Kd.C_drewN ?_ _) | (with_reducible refine Kd.C_drew ?_)))
      (case side4 => exact (Kd.R_reads' HO644.out).2.1)
      rintro e w177 ⟨rfl, hb⟩
      refine ⟨_, rfl, ?_⟩
      have n_ := a_ (rb_ HO586 hb) (a_ (rb_ HO592 hb) (a_ (rb_ HO598 hb) (a_ (rb_ HO604 hb) (a_ (rb_ HO619 hb) (a_ (rb_ HO632 hb) (a_ (rb_ HO640 hb) (a_ (rb_ HO644 hb) (a_ (bb_ BK575 hb) (a_ (bb_ BK576 hb) (a_ (bb_ BK588 hb) (a_ (bb_ BK594 hb) (a_ (bb_ BK600 hb) (a_ (bb_ BK606 hb) (a_ (bb_ BK621 hb) (a_ (bb_ BK625 hb) (a_ (bb_ BK634 hb) (bs_ HB hb)))))))))))))))))
      clear HO586 HO592 HO598 HO604 HO619 HO632 HO640 HO644 BK575 BK576 BK588 BK594 BK600 BK606 BK621 BK625 BK634 HB
      obtain ⟨HO586, HO592, HO598, HO604, HO619, HO632, HO640, HO644, BK575, BK576, BK588, BK594, BK600, BK606, BK621, BK625, BK634, HB⟩ := n_
      (try clear hb)
      (try clear hb2)
      (try clear hk)
      (try clear hi)
      refine hK.out _ _ ⟨(blk_cell BK625.out 0).trans rfl, (blk_cell BK625.out 1).trans rfl, (blk_cell BK621.out 0).trans rfl, (blk_cell BK621.out 1).trans rfl, (blk_cell BK634.out 0).trans rfl, (blk_cell BK634.out 1).trans rfl⟩ (fun hHeld => ?_)
      clear hK K
      refine nm_ ?_
      refine on_ 20 (some 196) (fun K hK => ?_)
      refine goes_ Try.func43 (by kernel_rfl) rfl #[.int .i64 (wrap64 (t626 + t627))] (by rfl) rfl rfl MP_ ?_
      with_reducible refine (warrantorref06_Is.calls (wrap64 (t626 + t627)) t646 _ A88.out).mono ?_
      rintro e w' ⟨rfl, ⟨nd, rfl⟩⟩
      refine ⟨_, rfl, ?_⟩
      refine hK.out _ _ ⟨(blk_cell BK625.out 0).trans rfl, (blk_cell BK625.out 1).trans rfl, (blk_cell BK621.out 0).trans rfl, (blk_cell BK621.out 1).trans rfl, (blk_cell BK634.out 0).trans rfl, (blk_cell BK634.out 1).trans rfl⟩ (fun hHeld => ?_)
      clear hK K
      refine nm_ ?_
      refine pu_ 21 (some 197) ?_
      refine pu_ 22 (some 198) ?_
      refine pu_ 23 (some 12) ?_
      refine done_ (done_of HT_.out (by kernel_rfl)) ?_
      try go_wp2
      go_ret
      exact ⟨by first | rfl | (simp [errW_none, errW_some] <;> rfl) | (simp [*, errW_none, errW_some] <;> rfl), HB_⟩
end Go.Proofs.Ytgeemdpflcefkaa.Z
