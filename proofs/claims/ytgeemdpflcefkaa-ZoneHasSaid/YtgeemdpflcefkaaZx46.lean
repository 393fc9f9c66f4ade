-- WRITTEN BY this session's program wip/ext.py, in print.py's manner
import Derived.Test.YtgeemdpflcefkaaZx0
import Derived.Test.YtgeemdpflcefkaaZx1
import Derived.Test.YtgeemdpflcefkaaZx3
import Derived.Test.YtgeemdpflcefkaaZx15
import Derived.Test.YtgeemdpflcefkaaZx16
import Derived.Test.YtgeemdpflcefkaaZx19
import Derived.Test.YtgeemdpflcefkaaZx21
import Derived.Test.YtgeemdpflcefkaaZx23
import Derived.Test.YtgeemdpflcefkaaZx24
import Derived.Test.YtgeemdpflcefkaaZx33
import Derived.Test.YtgeemdpflcefkaaZx35
import Derived.Test.YtgeemdpflcefkaaZx39
import Derived.Test.YtgeemdpflcefkaaZx41
namespace Go.Proofs.Ytgeemdpflcefkaa.Z
open Go.RowKit Go.Proofs.YtgeemdpflcefkaaW.PrintWords Go.Proofs.YtgeemdpflcefkaaW.PrintLast Go.Proofs.YtgeemdpflcefkaaW.PrintMore
attribute [local go_sem] max2_int min2_int max_two min_two max_three min_three max_four min_four   -- for this text's walks alone
set_option linter.unusedVariables false
set_option linter.unusedSimpArgs false

attribute [local go_sem high] eqA39
/-! ### warrantorlaw09_ZoneHas_v1: function 11 -/
mutual
def warrantorlaw09_ZoneHas_v1.j0 : Nat → List Int → Int → Int → Int → Bool → Int → List Int → Int → List Int → Option (Bool)
  | 0, _, _, _, _, _, _, _, _, _ => none
  | k + 1, x2, x3, x4, x5, x67, x648000, x648001, x649000, x649001 => if x67 = true then ((warrantorlaw09_lives.f k).bind fun t654 => (some t654)) else ((zone_Meet.f k x648000 x648001 x649000 x649001).bind fun bt655 => ((zone_Join.f k x648000 x648001 x649000 x649001).bind fun bt661 => ((zone_Widen.f k x648000 x648001 x649000 x649001).bind fun bt667 => ((zone_Limit.f k x648000 x648001 x3 x4 x5).bind fun bt673 => ((dbm_Has.f k x648000 x648001 x2).bind fun t679 => ((dbm_Has.f k x649000 x649001 x2).bind fun t680 => ((warrantorlaw09_lives.f k).bind fun t681 => (if t681 = true then ((dbm_Has.f k bt655.1 bt655.2.1 x2).bind fun t682 => (if t679 = true then (none) else (if (t682 != false) = true then (none) else (if t680 = true then ((dbm_Has.f k bt661.1 bt661.2.1 x2).bind fun t683 => (if t683 = true then ((dbm_Has.f k bt667.1 bt667.2.1 x2).bind fun t684 => (warrantorlaw09_ZoneHas_v1.j1 k x2 x3 t679 (!t684) x648000 x648001 bt673.1 bt673.2.1)) else (none))) else (warrantorlaw09_ZoneHas_v1.j1 k x2 x3 t679 false x648000 x648001 bt673.1 bt673.2.1))))) else (none)))))))))
def warrantorlaw09_ZoneHas_v1.j1 : Nat → List Int → Int → Bool → Bool → Int → List Int → Int → List Int → Option (Bool)
  | 0, _, _, _, _, _, _, _, _ => none
  | k + 1, x2, x3, x21, x130, x648000, x648001, x679000, x679001 => if x130 = true then (none) else ((dbm_Has.f k x679000 x679001 x2).bind fun t685 => (if x21 = true then (none) else (if (t685 != false) = true then (none) else ((zone_Forget.f k x648000 x648001 x3).bind fun bt686 => ((zone_Itv.f k bt686.1 bt686.2.1 x3).bind fun bt692 => (some true))))))
end
def warrantorlaw09_ZoneHas_v1.f (k : Nat) (a0_0 : Int) (l0_1 : List Int) (a1_0 : Int) (l1_1 : List Int) (l2 : List Int) (a3 : Int) (a4 : Int) (a5 : Int) : Option (Bool) := (warrantorref08_Large.f l0_1).bind fun t649 => (if t649 = true then (warrantorlaw09_ZoneHas_v1.j0 k l2 a3 a4 a5 true a0_0 l0_1 a1_0 l1_1) else ((warrantorref08_Large.f l1_1).bind fun t650 => (if t650 = true then (warrantorlaw09_ZoneHas_v1.j0 k l2 a3 a4 a5 true a0_0 l0_1 a1_0 l1_1) else (if (l2.length : Int) > 8 then (warrantorlaw09_ZoneHas_v1.j0 k l2 a3 a4 a5 true a0_0 l0_1 a1_0 l1_1) else ((warrantorref09_Two.f k a0_0 l0_1 a1_0 l1_1).bind fun t651 => (if t651 = 0 then (if (l2.length : Int) = a0_0 then ((warrantorref09_Var.f a0_0 l0_1 a3).bind fun t652 => (if t652 = true then ((warrantorref09_Or0.f a0_0 l0_1 a4).bind fun t653 => (warrantorlaw09_ZoneHas_v1.j0 k l2 a3 a4 a5 (!t653) a0_0 l0_1 a1_0 l1_1)) else (warrantorlaw09_ZoneHas_v1.j0 k l2 a3 a4 a5 true a0_0 l0_1 a1_0 l1_1))) else (warrantorlaw09_ZoneHas_v1.j0 k l2 a3 a4 a5 true a0_0 l0_1 a1_0 l1_1)) else (warrantorlaw09_ZoneHas_v1.j0 k l2 a3 a4 a5 true a0_0 l0_1 a1_0 l1_1)))))))
theorem warrantorlaw09_ZoneHas_v1.mono_l : ∀ k, (∀ y0 y1 y2 y3 y4 y5 y6 y7 y8, LeO (warrantorlaw09_ZoneHas_v1.j0 k y0 y1 y2 y3 y4 y5 y6 y7 y8) (warrantorlaw09_ZoneHas_v1.j0 (k + 1) y0 y1 y2 y3 y4 y5 y6 y7 y8)) ∧ (∀ y0 y1 y2 y3 y4 y5 y6 y7, LeO (warrantorlaw09_ZoneHas_v1.j1 k y0 y1 y2 y3 y4 y5 y6 y7) (warrantorlaw09_ZoneHas_v1.j1 (k + 1) y0 y1 y2 y3 y4 y5 y6 y7))
  | 0 => ⟨fun _ _ _ _ _ _ _ _ _ r h => by simp [warrantorlaw09_ZoneHas_v1.j0] at h, fun _ _ _ _ _ _ _ _ r h => by simp [warrantorlaw09_ZoneHas_v1.j1] at h⟩
  | k + 1 => by
    obtain ⟨ih0, ih1⟩ := warrantorlaw09_ZoneHas_v1.mono_l k
    refine ⟨?_, ?_⟩
    · intro y0 y1 y2 y3 y4 y5 y6 y7 y8
      unfold warrantorlaw09_ZoneHas_v1.j0
      repeat' first
      | (with_reducible exact ih0 _ _ _ _ _ _ _ _ _)
      | (with_reducible exact ih1 _ _ _ _ _ _ _ _)
      | (with_reducible exact dbm_Has.mono _ _ _ _)
      | (with_reducible exact warrantorlaw09_lives.mono _)
      | (with_reducible exact warrantorref09_Two.mono _ _ _ _ _)
      | (with_reducible exact zone_Forget.mono _ _ _ _)
      | (with_reducible exact zone_Itv.mono _ _ _ _)
      | (with_reducible exact zone_Join.mono _ _ _ _ _)
      | (with_reducible exact zone_Limit.mono _ _ _ _ _ _)
      | (with_reducible exact zone_Meet.mono _ _ _ _ _)
      | (with_reducible exact zone_Widen.mono _ _ _ _ _)
      | (with_reducible exact LeO.refl _)
      | (with_reducible exact LeO.none _)
      | (with_reducible refine LeO.ite ?_ ?_)
      | (with_reducible refine LeO.bind ?_ (fun _ => ?_))
      | exact ih0 _ _ _ _ _ _ _ _ _
      | exact ih1 _ _ _ _ _ _ _ _
      | exact dbm_Has.mono _ _ _ _
      | exact warrantorlaw09_lives.mono _
      | exact warrantorref09_Two.mono _ _ _ _ _
      | exact zone_Forget.mono _ _ _ _
      | exact zone_Itv.mono _ _ _ _
      | exact zone_Join.mono _ _ _ _ _
      | exact zone_Limit.mono _ _ _ _ _ _
      | exact zone_Meet.mono _ _ _ _ _
      | exact zone_Widen.mono _ _ _ _ _
      | exact LeO.none _
      | refine LeO.ite ?_ ?_
      | refine LeO.bind ?_ (fun _ => ?_)
    · intro y0 y1 y2 y3 y4 y5 y6 y7
      unfold warrantorlaw09_ZoneHas_v1.j1
      repeat' first
      | (with_reducible exact ih0 _ _ _ _ _ _ _ _ _)
      | (with_reducible exact ih1 _ _ _ _ _ _ _ _)
      | (with_reducible exact dbm_Has.mono _ _ _ _)
      | (with_reducible exact warrantorlaw09_lives.mono _)
      | (with_reducible exact warrantorref09_Two.mono _ _ _ _ _)
      | (with_reducible exact zone_Forget.mono _ _ _ _)
      | (with_reducible exact zone_Itv.mono _ _ _ _)
      | (with_reducible exact zone_Join.mono _ _ _ _ _)
      | (with_reducible exact zone_Limit.mono _ _ _ _ _ _)
      | (with_reducible exact zone_Meet.mono _ _ _ _ _)
      | (with_reducible exact zone_Widen.mono _ _ _ _ _)
      | (with_reducible exact LeO.refl _)
      | (with_reducible exact LeO.none _)
      | (with_reducible refine LeO.ite ?_ ?_)
      | (with_reducible refine LeO.bind ?_ (fun _ => ?_))
      | exact ih0 _ _ _ _ _ _ _ _ _
      | exact ih1 _ _ _ _ _ _ _ _
      | exact dbm_Has.mono _ _ _ _
      | exact warrantorlaw09_lives.mono _
      | exact warrantorref09_Two.mono _ _ _ _ _
      | exact zone_Forget.mono _ _ _ _
      | exact zone_Itv.mono _ _ _ _
      | exact zone_Join.mono _ _ _ _ _
      | exact zone_Limit.mono _ _ _ _ _ _
      | exact zone_Meet.mono _ _ _ _ _
      | exact zone_Widen.mono _ _ _ _ _
      | exact LeO.none _
      | refine LeO.ite ?_ ?_
      | refine LeO.bind ?_ (fun _ => ?_)
theorem warrantorlaw09_ZoneHas_v1.mono : ∀ a0 a1 a2 a3 a4 a5 a6 a7 k, LeO (warrantorlaw09_ZoneHas_v1.f k a0 a1 a2 a3 a4 a5 a6 a7) (warrantorlaw09_ZoneHas_v1.f (k + 1) a0 a1 a2 a3 a4 a5 a6 a7) := by
  intro a0 a1 a2 a3 a4 a5 a6 a7 k
  obtain ⟨ih0, ih1⟩ := warrantorlaw09_ZoneHas_v1.mono_l k
  unfold warrantorlaw09_ZoneHas_v1.f
  repeat' first
      | (with_reducible exact ih0 _ _ _ _ _ _ _ _ _)
      | (with_reducible exact ih1 _ _ _ _ _ _ _ _)
      | (with_reducible exact dbm_Has.mono _ _ _ _)
      | (with_reducible exact warrantorlaw09_lives.mono _)
      | (with_reducible exact warrantorref09_Two.mono _ _ _ _ _)
      | (with_reducible exact zone_Forget.mono _ _ _ _)
      | (with_reducible exact zone_Itv.mono _ _ _ _)
      | (with_reducible exact zone_Join.mono _ _ _ _ _)
      | (with_reducible exact zone_Limit.mono _ _ _ _ _ _)
      | (with_reducible exact zone_Meet.mono _ _ _ _ _)
      | (with_reducible exact zone_Widen.mono _ _ _ _ _)
      | (with_reducible exact LeO.refl _)
      | (with_reducible exact LeO.none _)
      | (with_reducible refine LeO.ite ?_ ?_)
      | (with_reducible refine LeO.bind ?_ (fun _ => ?_))
      | exact ih0 _ _ _ _ _ _ _ _ _
      | exact ih1 _ _ _ _ _ _ _ _
      | exact dbm_Has.mono _ _ _ _
      | exact warrantorlaw09_lives.mono _
      | exact warrantorref09_Two.mono _ _ _ _ _
      | exact zone_Forget.mono _ _ _ _
      | exact zone_Itv.mono _ _ _ _
      | exact zone_Join.mono _ _ _ _ _
      | exact zone_Limit.mono _ _ _ _ _ _
      | exact zone_Meet.mono _ _ _ _ _
      | exact zone_Widen.mono _ _ _ _ _
      | exact LeO.none _
      | refine LeO.ite ?_ ?_
      | refine LeO.bind ?_ (fun _ => ?_)
def warrantorlaw09_ZoneHas_v1.T7 : Bool × List (List Nat × List Nat) := (true, [([], []), ([], []), ([0, 1], [0, 1]), ([], []), ([], []), ([3, 4, 2], [3, 4]), ([2, 5, 0, 1, 2], [2]), ([5, 6, 0, 1, 2, 3, 4, 5, 6], [5])])
def warrantorlaw09_ZoneHas_v1.B7 : List Nat := [0, 0, 3, 0, 0, 31, 63, 127]
theorem warrantorlaw09_ZoneHas_v1.tab7 : rtab .any (opsOf Try.f11 7) = warrantorlaw09_ZoneHas_v1.T7 := by kernel_rfl
theorem warrantorlaw09_ZoneHas_v1.bits7 : waitsOk warrantorlaw09_ZoneHas_v1.T7.2 warrantorlaw09_ZoneHas_v1.B7 = true := by kernel_rfl
set_option maxHeartbeats 8000000 in
set_option maxRecDepth 100000 in
theorem warrantorlaw09_ZoneHas_v1.calls (k : Nat) (a0_0 : Int) (A0_1 : Option Addr) (c0_1 : Nat) (l0_1 : List Int) (a1_0 : Int) (A1_1 : Option Addr) (c1_1 : Nat) (l1_1 : List Int) (A2 : Option Addr) (c2 : Nat) (l2 : List Int) (a3 : Int) (a4 : Int) (a5 : Int) (r : Bool) (w : World) (hr0_1 : Kd.C (Kd.int .i64) w A0_1 l0_1.length l0_1) (hc0_1 : l0_1.length ≤ c0_1) (hr1_1 : Kd.C (Kd.int .i64) w A1_1 l1_1.length l1_1) (hc1_1 : l1_1.length ≤ c1_1) (hr2 : Kd.C (Kd.int .i64) w A2 l2.length l2) (hc2 : l2.length ≤ c2) (h : warrantorlaw09_ZoneHas_v1.f k a0_0 l0_1 a1_0 l1_1 l2 a3 a4 a5 = some r) :
    Calls Try.prog 11 #[.agg #[.int .i64 a0_0, .slice A0_1 l0_1.length c0_1], .agg #[.int .i64 a1_0, .slice A1_1 l1_1.length c1_1], .slice A2 l2.length c2, .int .i64 a3, .int .i64 a4, .int .i64 a5] w fun e w' => e = .returned (.bool r) ∧ Below w.heap.size w w' := by
  have hu24 := Try.underlying24
  have hu39 := Try.underlying39
  have HR0_1 := Aside0.mk hr0_1
  have HC0_1 := Aside0.mk hc0_1
  clear hr0_1 hc0_1
  have HR1_1 := Aside0.mk hr1_1
  have HC1_1 := Aside0.mk hc1_1
  clear hr1_1 hc1_1
  have HR2 := Aside0.mk hr2
  have HC2 := Aside0.mk hc2
  clear hr2 hc2
  have HB := Aside0.mk (Below.refl w.heap.size w)
  have H : ((warrantorref08_Large.f l0_1).bind fun t649 => (if t649 = true then (warrantorlaw09_ZoneHas_v1.j0 k l2 a3 a4 a5 true a0_0 l0_1 a1_0 l1_1) else ((warrantorref08_Large.f l1_1).bind fun t650 => (if t650 = true then (warrantorlaw09_ZoneHas_v1.j0 k l2 a3 a4 a5 true a0_0 l0_1 a1_0 l1_1) else (if (l2.length : Int) > 8 then (warrantorlaw09_ZoneHas_v1.j0 k l2 a3 a4 a5 true a0_0 l0_1 a1_0 l1_1) else ((warrantorref09_Two.f k a0_0 l0_1 a1_0 l1_1).bind fun t651 => (if t651 = 0 then (if (l2.length : Int) = a0_0 then ((warrantorref09_Var.f a0_0 l0_1 a3).bind fun t652 => (if t652 = true then ((warrantorref09_Or0.f a0_0 l0_1 a4).bind fun t653 => (warrantorlaw09_ZoneHas_v1.j0 k l2 a3 a4 a5 (!t653) a0_0 l0_1 a1_0 l1_1)) else (warrantorlaw09_ZoneHas_v1.j0 k l2 a3 a4 a5 true a0_0 l0_1 a1_0 l1_1))) else (warrantorlaw09_ZoneHas_v1.j0 k l2 a3 a4 a5 true a0_0 l0_1 a1_0 l1_1)) else (warrantorlaw09_ZoneHas_v1.j0 k l2 a3 a4 a5 true a0_0 l0_1 a1_0 l1_1)))))))) = some r := h
  clear h
  have HC7 := Aside0.mk H
  clear H
  go_enter Try.func11, Try.ntmps11
  go_upto_region 1 with (first | ((with_reducible refine gate_dst (N := 6) rfl ?_); (try (refine gate_guard (by rfl) ?_; dsimp only)); refine bx_ (N := 6) (cs := #[.int .i64 a0_0, .slice A0_1 l0_1.length c0_1]) (t := 24) ?_; intro gb647 hg w8 hbox hb; have n_ := a_ (bs_ HB hb) (a_ (Aside0.mk hbox) (a_ (gs_ HB hg) (gs_ HB hg))); clear HB; obtain ⟨HB, BK647, GW647, GE647⟩ := n_; clear hb hbox hg) | ((with_reducible refine gate_dst (N := 7) rfl ?_); (try (refine gate_guard (by rfl) ?_; dsimp only)); refine bx_ (N := 7) (cs := #[.int .i64 a1_0, .slice A1_1 l1_1.length c1_1]) (t := 24) ?_; intro gb648 hg w9 hbox hb; have n_ := a_ (bb_ BK647 hb) (a_ (bs_ HB hb) (a_ (Aside0.mk hbox) (a_ (gs_ HB hg) (a_ (gs_ HB hg) (a_ (nl_ BK647 hg) (ng_ BK647 hg)))))); clear BK647 HB; obtain ⟨BK647, HB, BK648, GW648, GE648, NB647_648, NB648_647⟩ := n_; clear hb hbox hg))
  (try simp only [Act.put, List.setIfInBounds_toArray, List.set_cons_zero, List.set_cons_succ])
  go_cut [67] (fun v67 wc => ∃ (kq : Nat) (x67_6 : Bool), v67 = .bool x67_6 ∧ Aside0 (warrantorlaw09_ZoneHas_v1.j0 kq l2 a3 a4 a5 x67_6 a0_0 l0_1 a1_0 l1_1 = some r) ∧ Aside0 (kq ≤ k) ∧ Aside0 (wc.heap[gb647]? = some (.cells #[.int .i64 a0_0, (.slice A0_1 l0_1.length c0_1)] 24 (0, 0))) ∧ Aside0 (wc.heap[gb648]? = some (.cells #[.int .i64 a1_0, (.slice A1_1 l1_1.length c1_1)] 24 (0, 0))) ∧ Aside0 (Below w.heap.size w wc))
  case first =>
    have H := HC7.out
    clear HC7
    replace H := bd_ H
    obtain ⟨t649, A10, H⟩ := H
    (try dsimp only at H)
    by_cases c11 : t649 = true
    · subst c11
      replace H := ps1_ H
      have H' := Aside0.mk H
      clear H
      have hnb12 := NB647_648.out
      have hnc12 := NB648_647.out
      obtain ⟨hcz13_0, hcz13_1, hfz13_0, hfz13_1⟩ := cz2_ BK647
      go_wp2_with (first | ((with_reducible refine gate_callee (f := 12) rfl ?_); refine goesL_ (some 32) rfl rfl Try.func12 (by kernel_rfl) rfl #[.slice A0_1 l0_1.length c0_1] rfl MP_ ?_; (with_reducible refine (warrantorref08_Large.calls _ _ l0_1 true _ ?side1 ?side2 A10.out).mono ?_); (case side1 => exact sd_ (Kd.C_below HR0_1.out HB.out)); (case side2 => exact HC0_1.out); rintro e w' ⟨rfl, ⟨nd, rfl⟩⟩; refine ⟨_, rfl, ?_⟩))
      go_meet
      case rel => exact ⟨_, (true), (by first | rfl | (simp; done) | (simp [*]; done)), H', ⟨by first | omega | exact Nat.le_refl _⟩, ⟨by (with_reducible repeat (first | refine blk_drewN ?_ _ | refine blk_drew ?_ | refine blk_alloc ?_ _)); exact BK647.out⟩, ⟨by (with_reducible repeat (first | refine blk_drewN ?_ _ | refine blk_drew ?_ | refine blk_alloc ?_ _)); exact BK648.out⟩, ⟨HB_⟩⟩
    replace c11 := Bool.eq_false_iff.mpr c11
    subst c11
    replace H := ng1_ H
    replace H := bd_ H
    obtain ⟨t650, A14, H⟩ := H
    (try dsimp only at H)
    by_cases c15 : t650 = true
    · subst c15
      replace H := ps1_ H
      have H' := Aside0.mk H
      clear H
      have hnb16 := NB647_648.out
      have hnc16 := NB648_647.out
      obtain ⟨hcz17_0, hcz17_1, hfz17_0, hfz17_1⟩ := cz2_ BK647
      go_wp2_with (first | ((with_reducible refine gate_callee (f := 12) rfl ?_); refine goesL_ (some 32) rfl rfl Try.func12 (by kernel_rfl) rfl #[.slice A0_1 l0_1.length c0_1] rfl MP_ ?_; (with_reducible refine (warrantorref08_Large.calls _ _ l0_1 false _ ?side1 ?side2 A10.out).mono ?_); (case side1 => exact sd_ (Kd.C_below HR0_1.out HB.out)); (case side2 => exact HC0_1.out); rintro e w' ⟨rfl, ⟨nd, rfl⟩⟩; refine ⟨_, rfl, ?_⟩; obtain ⟨hcz18_0, hcz18_1, hfz18_0, hfz18_1⟩ := cz2_ BK648; (try clear A10)) | (go_at_call 12; (with_reducible refine (warrantorref08_Large.calls _ _ l1_1 true _ ?side1 ?side2 A14.out).mono ?_); (case side1 => repeat (first | exact (Kd.C_below HR1_1.out HB_) | (with_reducible refine Kd.C_alloc ?_ _) | (with_reducible refine Kd.C_drewN ?_ _) | (with_reducible refine Kd.C_drew ?_))); (case side2 => exact HC1_1.out); rintro e w' ⟨rfl, ⟨nd, rfl⟩⟩))
      go_meet
      case rel => exact ⟨_, (true), (by first | rfl | (simp; done) | (simp [*]; done)), H', ⟨by first | omega | exact Nat.le_refl _⟩, ⟨by (with_reducible repeat (first | refine blk_drewN ?_ _ | refine blk_drew ?_ | refine blk_alloc ?_ _)); exact BK647.out⟩, ⟨by (with_reducible repeat (first | refine blk_drewN ?_ _ | refine blk_drew ?_ | refine blk_alloc ?_ _)); exact BK648.out⟩, ⟨HB_⟩⟩
    replace c15 := Bool.eq_false_iff.mpr c15
    subst c15
    replace H := ng1_ H
    by_cases c19 : (l2.length : Int) > 8
    · rw [if_pos c19] at H
      have c19b0 : decide (8 < (l2.length : Int)) = true := decide_eq_true c19
      have c19b1 : decide (8 < l2.length) = true := decide_eq_true (by omega)
      clear c19
      (first | rw [c19b0] | (simp only [i64_w, i32_w]; rw [c19b0]) | skip)
      have H' := Aside0.mk H
      clear H
      have hnb20 := NB647_648.out
      have hnc20 := NB648_647.out
      obtain ⟨hcz21_0, hcz21_1, hfz21_0, hfz21_1⟩ := cz2_ BK647
      go_wp2_with (first | ((with_reducible refine gate_callee (f := 12) rfl ?_); refine goesL_ (some 32) rfl rfl Try.func12 (by kernel_rfl) rfl #[.slice A0_1 l0_1.length c0_1] rfl MP_ ?_; (with_reducible refine (warrantorref08_Large.calls _ _ l0_1 false _ ?side1 ?side2 A10.out).mono ?_); (case side1 => exact sd_ (Kd.C_below HR0_1.out HB.out)); (case side2 => exact HC0_1.out); rintro e w' ⟨rfl, ⟨nd, rfl⟩⟩; refine ⟨_, rfl, ?_⟩; obtain ⟨hcz22_0, hcz22_1, hfz22_0, hfz22_1⟩ := cz2_ BK648; (try clear A10)) | (go_at_call 12; (with_reducible refine (warrantorref08_Large.calls _ _ l1_1 false _ ?side1 ?side2 A14.out).mono ?_); (case side1 => repeat (first | exact (Kd.C_below HR1_1.out HB_) | (with_reducible refine Kd.C_alloc ?_ _) | (with_reducible refine Kd.C_drewN ?_ _) | (with_reducible refine Kd.C_drew ?_))); (case side2 => exact HC1_1.out); rintro e w' ⟨rfl, ⟨nd, rfl⟩⟩))
      go_meet
      case rel => exact ⟨_, (true), (by first | rfl | (simp; done) | (simp [*]; done)), H', ⟨by first | omega | exact Nat.le_refl _⟩, ⟨by (with_reducible repeat (first | refine blk_drewN ?_ _ | refine blk_drew ?_ | refine blk_alloc ?_ _)); exact BK647.out⟩, ⟨by (with_reducible repeat (first | refine blk_drewN ?_ _ | refine blk_drew ?_ | refine blk_alloc ?_ _)); exact BK648.out⟩, ⟨HB_⟩⟩
    rw [if_neg c19] at H
    have c19b0 : decide (8 < (l2.length : Int)) = false := decide_eq_false c19
    have c19b1 : decide (8 < l2.length) = false := decide_eq_false (by omega)
    clear c19
    (first | rw [c19b0] | (simp only [i64_w, i32_w]; rw [c19b0]) | skip)
    replace H := bd_ H
    obtain ⟨t651, A23, H⟩ := H
    (try dsimp only at H)
    by_cases c24 : t651 = 0
    rotate_left
    · rw [if_neg c24] at H
      have c24b0 : (t651 == 0) = false := beq_eq_false_iff_ne.mpr c24
      have c24b1 : (t651 != 0) = true := bne_iff_ne.mpr c24
      have H' := Aside0.mk H
      clear H
      have hnb48 := NB647_648.out
      have hnc48 := NB648_647.out
      obtain ⟨hcz49_0, hcz49_1, hfz49_0, hfz49_1⟩ := cz2_ BK647
      go_wp2_with (first | ((with_reducible refine gate_callee (f := 12) rfl ?_); refine goesL_ (some 32) rfl rfl Try.func12 (by kernel_rfl) rfl #[.slice A0_1 l0_1.length c0_1] rfl MP_ ?_; (with_reducible refine (warrantorref08_Large.calls _ _ l0_1 false _ ?side1 ?side2 A10.out).mono ?_); (case side1 => exact sd_ (Kd.C_below HR0_1.out HB.out)); (case side2 => exact HC0_1.out); rintro e w' ⟨rfl, ⟨nd, rfl⟩⟩; refine ⟨_, rfl, ?_⟩; obtain ⟨hcz50_0, hcz50_1, hfz50_0, hfz50_1⟩ := cz2_ BK648; (try clear A10)) | (go_at_call 12; (with_reducible refine (warrantorref08_Large.calls _ _ l1_1 false _ ?side1 ?side2 A14.out).mono ?_); (case side1 => repeat (first | exact (Kd.C_below HR1_1.out HB_) | (with_reducible refine Kd.C_alloc ?_ _) | (with_reducible refine Kd.C_drewN ?_ _) | (with_reducible refine Kd.C_drew ?_))); (case side2 => exact HC1_1.out); rintro e w' ⟨rfl, ⟨nd, rfl⟩⟩) | (go_at_call 34; (with_reducible refine (warrantorref09_Two.calls k a0_0 _ _ l0_1 a1_0 _ _ l1_1 t651 _ ?side1 ?side2 ?side3 ?side4 A23.out).mono ?_); (case side1 => repeat (first | exact (Kd.C_below HR0_1.out HB_) | (with_reducible refine Kd.C_alloc ?_ _) | (with_reducible refine Kd.C_drewN ?_ _) | (with_reducible refine Kd.C_drew ?_))); (case side2 => exact HC0_1.out); (case side3 => repeat (first | exact (Kd.C_below HR1_1.out HB_) | (with_reducible refine Kd.C_alloc ?_ _) | (with_reducible refine Kd.C_drewN ?_ _) | (with_reducible refine Kd.C_drew ?_))); (case side4 => exact HC1_1.out); rintro e w51 ⟨rfl, hb⟩; have n_ := a_ (bb_ BK647 hb) (a_ (bb_ BK648 hb) (bs_ HB hb)); clear BK647 BK648 HB; obtain ⟨BK647, BK648, HB⟩ := n_; (try clear hb); (try clear hb2); (try clear hk); (try clear hi)))
      go_meet
      case rel => exact ⟨_, (true), (by first | rfl | (simp; done) | (simp [*]; done)), H', ⟨by first | omega | exact Nat.le_refl _⟩, ⟨by (with_reducible repeat (first | refine blk_drewN ?_ _ | refine blk_drew ?_ | refine blk_alloc ?_ _)); exact BK647.out⟩, ⟨by (with_reducible repeat (first | refine blk_drewN ?_ _ | refine blk_drew ?_ | refine blk_alloc ?_ _)); exact BK648.out⟩, ⟨HB_⟩⟩
    rw [if_pos c24] at H
    have c24b0 : (t651 == 0) = true := beq_iff_eq.mpr c24
    have c24b1 : (t651 != 0) = false := bne_eq_false_iff_eq.mpr c24
    clear c24
    by_cases c25 : (l2.length : Int) = a0_0
    rotate_left
    · rw [if_neg c25] at H
      have c25b0 : ((l2.length : Int) == a0_0) = false := beq_eq_false_iff_ne.mpr c25
      have c25b1 : ((l2.length : Int) != a0_0) = true := bne_iff_ne.mpr c25
      have H' := Aside0.mk H
      clear H
      have hnb43 := NB647_648.out
      have hnc43 := NB648_647.out
      obtain ⟨hcz44_0, hcz44_1, hfz44_0, hfz44_1⟩ := cz2_ BK647
      go_wp2_with (first | ((with_reducible refine gate_callee (f := 12) rfl ?_); refine goesL_ (some 32) rfl rfl Try.func12 (by kernel_rfl) rfl #[.slice A0_1 l0_1.length c0_1] rfl MP_ ?_; (with_reducible refine (warrantorref08_Large.calls _ _ l0_1 false _ ?side1 ?side2 A10.out).mono ?_); (case side1 => exact sd_ (Kd.C_below HR0_1.out HB.out)); (case side2 => exact HC0_1.out); rintro e w' ⟨rfl, ⟨nd, rfl⟩⟩; refine ⟨_, rfl, ?_⟩; obtain ⟨hcz45_0, hcz45_1, hfz45_0, hfz45_1⟩ := cz2_ BK648; (try clear A10)) | (go_at_call 12; (with_reducible refine (warrantorref08_Large.calls _ _ l1_1 false _ ?side1 ?side2 A14.out).mono ?_); (case side1 => repeat (first | exact (Kd.C_below HR1_1.out HB_) | (with_reducible refine Kd.C_alloc ?_ _) | (with_reducible refine Kd.C_drewN ?_ _) | (with_reducible refine Kd.C_drew ?_))); (case side2 => exact HC1_1.out); rintro e w' ⟨rfl, ⟨nd, rfl⟩⟩) | (go_at_call 34; (with_reducible refine (warrantorref09_Two.calls k a0_0 _ _ l0_1 a1_0 _ _ l1_1 t651 _ ?side1 ?side2 ?side3 ?side4 A23.out).mono ?_); (case side1 => repeat (first | exact (Kd.C_below HR0_1.out HB_) | (with_reducible refine Kd.C_alloc ?_ _) | (with_reducible refine Kd.C_drewN ?_ _) | (with_reducible refine Kd.C_drew ?_))); (case side2 => exact HC0_1.out); (case side3 => repeat (first | exact (Kd.C_below HR1_1.out HB_) | (with_reducible refine Kd.C_alloc ?_ _) | (with_reducible refine Kd.C_drewN ?_ _) | (with_reducible refine Kd.C_drew ?_))); (case side4 => exact HC1_1.out); rintro e w46 ⟨rfl, hb⟩; have n_ := a_ (bb_ BK647 hb) (a_ (bb_ BK648 hb) (bs_ HB hb)); clear BK647 BK648 HB; obtain ⟨BK647, BK648, HB⟩ := n_; (try clear hb); (try clear hb2); (try clear hk); (try clear hi); obtain ⟨hcz47_0, hcz47_1, hfz47_0, hfz47_1⟩ := cz2_ BK647))
      go_meet
      case rel => exact ⟨_, (true), (by first | rfl | (simp; done) | (simp [*]; done)), H', ⟨by first | omega | exact Nat.le_refl _⟩, ⟨by (with_reducible repeat (first | refine blk_drewN ?_ _ | refine blk_drew ?_ | refine blk_alloc ?_ _)); exact BK647.out⟩, ⟨by (with_reducible repeat (first | refine blk_drewN ?_ _ | refine blk_drew ?_ | refine blk_alloc ?_ _)); exact BK648.out⟩, ⟨HB_⟩⟩
    rw [if_pos c25] at H
    have c25b0 : ((l2.length : Int) == a0_0) = true := beq_iff_eq.mpr c25
    have c25b1 : ((l2.length : Int) != a0_0) = false := bne_eq_false_iff_eq.mpr c25
    clear c25
    replace H := bd_ H
    obtain ⟨t652, A26, H⟩ := H
    (try dsimp only at H)
    by_cases c27 : t652 = true
    rotate_left
    · replace c27 := Bool.eq_false_iff.mpr c27
      subst c27
      replace H := ng1_ H
      have H' := Aside0.mk H
      clear H
      have hnb37 := NB647_648.out
      have hnc37 := NB648_647.out
      obtain ⟨hcz38_0, hcz38_1, hfz38_0, hfz38_1⟩ := cz2_ BK647
      go_wp2_with (first | ((with_reducible refine gate_callee (f := 12) rfl ?_); refine goesL_ (some 32) rfl rfl Try.func12 (by kernel_rfl) rfl #[.slice A0_1 l0_1.length c0_1] rfl MP_ ?_; (with_reducible refine (warrantorref08_Large.calls _ _ l0_1 false _ ?side1 ?side2 A10.out).mono ?_); (case side1 => exact sd_ (Kd.C_below HR0_1.out HB.out)); (case side2 => exact HC0_1.out); rintro e w' ⟨rfl, ⟨nd, rfl⟩⟩; refine ⟨_, rfl, ?_⟩; obtain ⟨hcz39_0, hcz39_1, hfz39_0, hfz39_1⟩ := cz2_ BK648; (try clear A10)) | (go_at_call 12; (with_reducible refine (warrantorref08_Large.calls _ _ l1_1 false _ ?side1 ?side2 A14.out).mono ?_); (case side1 => repeat (first | exact (Kd.C_below HR1_1.out HB_) | (with_reducible refine Kd.C_alloc ?_ _) | (with_reducible refine Kd.C_drewN ?_ _) | (with_reducible refine Kd.C_drew ?_))); (case side2 => exact HC1_1.out); rintro e w' ⟨rfl, ⟨nd, rfl⟩⟩) | (go_at_call 34; (with_reducible refine (warrantorref09_Two.calls k a0_0 _ _ l0_1 a1_0 _ _ l1_1 t651 _ ?side1 ?side2 ?side3 ?side4 A23.out).mono ?_); (case side1 => repeat (first | exact (Kd.C_below HR0_1.out HB_) | (with_reducible refine Kd.C_alloc ?_ _) | (with_reducible refine Kd.C_drewN ?_ _) | (with_reducible refine Kd.C_drew ?_))); (case side2 => exact HC0_1.out); (case side3 => repeat (first | exact (Kd.C_below HR1_1.out HB_) | (with_reducible refine Kd.C_alloc ?_ _) | (with_reducible refine Kd.C_drewN ?_ _) | (with_reducible refine Kd.C_drew ?_))); (case side4 => exact HC1_1.out); rintro e w40 ⟨rfl, hb⟩; have n_ := a_ (bb_ BK647 hb) (a_ (bb_ BK648 hb) (bs_ HB hb)); clear BK647 BK648 HB; obtain ⟨BK647, BK648, HB⟩ := n_; (try clear hb); (try clear hb2); (try clear hk); (try clear hi); obtain ⟨hcz41_0, hcz41_1, hfz41_0, hfz41_1⟩ := cz2_ BK647) | (go_at_call 28; (with_reducible refine (warrantorref09_Var.calls a0_0 _ _ l0_1 a3 false _ ?side1 ?side2 A26.out).mono ?_); (case side1 => exact sd_ (Kd.C_below HR0_1.out HB.out)); (case side2 => exact HC0_1.out); rintro e w42 ⟨rfl, hb⟩; have n_ := a_ (bb_ BK647 hb) (a_ (bb_ BK648 hb) (bs_ HB hb)); clear BK647 BK648 HB; obtain ⟨BK647, BK648, HB⟩ := n_; (try clear hb); (try clear hb2); (try clear hk); (try clear hi)))
      go_meet
      case rel => exact ⟨_, (true), (by first | rfl | (simp; done) | (simp [*]; done)), H', ⟨by first | omega | exact Nat.le_refl _⟩, ⟨by (with_reducible repeat (first | refine blk_drewN ?_ _ | refine blk_drew ?_ | refine blk_alloc ?_ _)); exact BK647.out⟩, ⟨by (with_reducible repeat (first | refine blk_drewN ?_ _ | refine blk_drew ?_ | refine blk_alloc ?_ _)); exact BK648.out⟩, ⟨HB_⟩⟩
    subst c27
    replace H := ps1_ H
    replace H := bd_ H
    obtain ⟨t653, A28, H⟩ := H
    (try dsimp only at H)
    have H' := Aside0.mk H
    clear H
    have hnb29 := NB647_648.out
    have hnc29 := NB648_647.out
    obtain ⟨hcz30_0, hcz30_1, hfz30_0, hfz30_1⟩ := cz2_ BK647
    go_wp2_with (first | ((with_reducible refine gate_callee (f := 12) rfl ?_); refine goesL_ (some 32) rfl rfl Try.func12 (by kernel_rfl) rfl #[.slice A0_1 l0_1.length c0_1] rfl MP_ ?_; (with_reducible refine (warrantorref08_Large.calls _ _ l0_1 false _ ?side1 ?side2 A10.out).mono ?_); (case side1 => exact sd_ (Kd.C_below HR0_1.out HB.out)); (case side2 => exact HC0_1.out); rintro e w' ⟨rfl, ⟨nd, rfl⟩⟩; refine ⟨_, rfl, ?_⟩; obtain ⟨hcz31_0, hcz31_1, hfz31_0, hfz31_1⟩ := cz2_ BK648; (try clear A10)) | (go_at_call 12; (with_reducible refine (warrantorref08_Large.calls _ _ l1_1 false _ ?side1 ?side2 A14.out).mono ?_); (case side1 => repeat (first | exact (Kd.C_below HR1_1.out HB_) | (with_reducible refine Kd.C_alloc ?_ _) | (with_reducible refine Kd.C_drewN ?_ _) | (with_reducible refine Kd.C_drew ?_))); (case side2 => exact HC1_1.out); rintro e w' ⟨rfl, ⟨nd, rfl⟩⟩) | (go_at_call 34; (with_reducible refine (warrantorref09_Two.calls k a0_0 _ _ l0_1 a1_0 _ _ l1_1 t651 _ ?side1 ?side2 ?side3 ?side4 A23.out).mono ?_); (case side1 => repeat (first | exact (Kd.C_below HR0_1.out HB_) | (with_reducible refine Kd.C_alloc ?_ _) | (with_reducible refine Kd.C_drewN ?_ _) | (with_reducible refine Kd.C_drew ?_))); (case side2 => exact HC0_1.out); (case side3 => repeat (first | exact (Kd.C_below HR1_1.out HB_) | (with_reducible refine Kd.C_alloc ?_ _) | (with_reducible refine Kd.C_drewN ?_ _) | (with_reducible refine Kd.C_drew ?_))); (case side4 => exact HC1_1.out); rintro e w32 ⟨rfl, hb⟩; have n_ := a_ (bb_ BK647 hb) (a_ (bb_ BK648 hb) (bs_ HB hb)); clear BK647 BK648 HB; obtain ⟨BK647, BK648, HB⟩ := n_; (try clear hb); (try clear hb2); (try clear hk); (try clear hi); obtain ⟨hcz33_0, hcz33_1, hfz33_0, hfz33_1⟩ := cz2_ BK647) | (go_at_call 28; (with_reducible refine (warrantorref09_Var.calls a0_0 _ _ l0_1 a3 true _ ?side1 ?side2 A26.out).mono ?_); (case side1 => exact sd_ (Kd.C_below HR0_1.out HB.out)); (case side2 => exact HC0_1.out); rintro e w34 ⟨rfl, hb⟩; have n_ := a_ (bb_ BK647 hb) (a_ (bb_ BK648 hb) (bs_ HB hb)); clear BK647 BK648 HB; obtain ⟨BK647, BK648, HB⟩ := n_; (try clear hb); (try clear hb2); (try clear hk); (try clear hi); obtain ⟨hcz35_0, hcz35_1, hfz35_0, hfz35_1⟩ := cz2_ BK647) | (go_at_call 29; (with_reducible refine (warrantorref09_Or0.calls a0_0 _ _ l0_1 a4 t653 _ ?side1 ?side2 A28.out).mono ?_); (case side1 => exact sd_ (Kd.C_below HR0_1.out HB.out)); (case side2 => exact HC0_1.out); rintro e w36 ⟨rfl, hb⟩; have n_ := a_ (bb_ BK647 hb) (a_ (bb_ BK648 hb) (bs_ HB hb)); clear BK647 BK648 HB; obtain ⟨BK647, BK648, HB⟩ := n_; (try clear hb); (try clear hb2); (try clear hk); (try clear hi)))
    go_meet
    case rel => exact ⟨_, (!t653), (by first | rfl | (simp; done) | (simp [*]; done)), H', ⟨by first | omega | exact Nat.le_refl _⟩, ⟨by (with_reducible repeat (first | refine blk_drewN ?_ _ | refine blk_drew ?_ | refine blk_alloc ?_ _)); exact BK647.out⟩, ⟨by (with_reducible repeat (first | refine blk_drewN ?_ _ | refine blk_drew ?_ | refine blk_alloc ?_ _)); exact BK648.out⟩, ⟨HB_⟩⟩
  case rest =>
    clear HC7
    try clear c1
    try clear c2
    try clear p2
    try clear c3
    try clear c4
    try clear c11
    try clear c12
    try clear c15
    try clear c16
    try clear c19
    try clear c19b0
    try clear c19b1
    try clear c20
    try clear c24
    try clear c24b0
    try clear c24b1
    try clear c25
    try clear c25b0
    try clear c25b1
    try clear c27
    try clear c29
    try clear c37
    try clear c43
    try clear c48
    try clear hcz13_0
    try clear hcz13_1
    try clear hcz17_0
    try clear hcz17_1
    try clear hcz18_0
    try clear hcz18_1
    try clear hcz21_0
    try clear hcz21_1
    try clear hcz22_0
    try clear hcz22_1
    try clear hcz30_0
    try clear hcz30_1
    try clear hcz31_0
    try clear hcz31_1
    try clear hcz33_0
    try clear hcz33_1
    try clear hcz35_0
    try clear hcz35_1
    try clear hcz38_0
    try clear hcz38_1
    try clear hcz39_0
    try clear hcz39_1
    try clear hcz41_0
    try clear hcz41_1
    try clear hcz44_0
    try clear hcz44_1
    try clear hcz45_0
    try clear hcz45_1
    try clear hcz47_0
    try clear hcz47_1
    try clear hcz49_0
    try clear hcz49_1
    try clear hcz50_0
    try clear hcz50_1
    try clear hfz13_0
    try clear hfz13_1
    try clear hfz17_0
    try clear hfz17_1
    try clear hfz18_0
    try clear hfz18_1
    try clear hfz21_0
    try clear hfz21_1
    try clear hfz22_0
    try clear hfz22_1
    try clear hfz30_0
    try clear hfz30_1
    try clear hfz31_0
    try clear hfz31_1
    try clear hfz33_0
    try clear hfz33_1
    try clear hfz35_0
    try clear hfz35_1
    try clear hfz38_0
    try clear hfz38_1
    try clear hfz39_0
    try clear hfz39_1
    try clear hfz41_0
    try clear hfz41_1
    try clear hfz44_0
    try clear hfz44_1
    try clear hfz45_0
    try clear hfz45_1
    try clear hfz47_0
    try clear hfz47_1
    try clear hfz49_0
    try clear hfz49_1
    try clear hfz50_0
    try clear hfz50_1
    obtain ⟨kq, x67_6, rfl, HA, HJ6, BK647, BK648, HB⟩ := hcut
    cases kq with
    | zero => exact absurd HA.out (by simp [warrantorlaw09_ZoneHas_v1.j0])
    | succ kj6 =>
      have H := HA.out
      clear HA
      simp only [warrantorlaw09_ZoneHas_v1.j0] at H
      by_cases c52 : x67_6 = true
      · subst c52
        replace H := ps1_ H
        replace H := bd_ H
        obtain ⟨t654, A53, H⟩ := H
        (try dsimp only at H)
        obtain rfl := Option.some.inj H
        go_wp2_with (first | ((with_reducible refine gate_callee (f := 22) rfl ?_); refine goesL_ (some 68) rfl rfl Try.func22 (by kernel_rfl) rfl #[] rfl MP_ ?_; (with_reducible refine (warrantorlaw09_lives.calls kj6  t654 _ A53.out).mono ?_); rintro e w54 ⟨rfl, hb⟩; refine ⟨_, rfl, ?_⟩; have n_ := a_ (bb_ BK647 hb) (a_ (bb_ BK648 hb) (bs_ HB hb)); clear BK647 BK648 HB; obtain ⟨BK647, BK648, HB⟩ := n_; (try clear hb); (try clear hb2); (try clear hk); (try clear hi)))
        go_ret
        exact ⟨by first | rfl | (simp [errW_none, errW_some] <;> rfl) | (simp [*, errW_none, errW_some] <;> rfl), HB_⟩
      replace c52 := Bool.eq_false_iff.mpr c52
      subst c52
      replace H := ng1_ H
      replace H := bd_ H
      obtain ⟨⟨t655, t656, t659⟩, A55, H⟩ := H
      (try dsimp only at H)
      replace H := bd_ H
      obtain ⟨⟨t661, t662, t665⟩, A56, H⟩ := H
      (try dsimp only at H)
      replace H := bd_ H
      obtain ⟨⟨t667, t668, t671⟩, A57, H⟩ := H
      (try dsimp only at H)
      replace H := bd_ H
      obtain ⟨⟨t673, t674, t677⟩, A58, H⟩ := H
      (try dsimp only at H)
      replace H := bd_ H
      obtain ⟨t679, A59, H⟩ := H
      (try dsimp only at H)
      replace H := bd_ H
      obtain ⟨t680, A60, H⟩ := H
      (try dsimp only at H)
      have HC61 := Aside0.mk H
      clear H
      have hnb62 := NB647_648.out
      have hnc62 := NB648_647.out
      obtain ⟨hcz63_0, hcz63_1, hfz63_0, hfz63_1⟩ := cz2_ BK647
      obtain ⟨hcz64_0, hcz64_1, hfz64_0, hfz64_1⟩ := cz2_ BK648
      try go_wp2_with (first | ((with_reducible refine gate_callee (f := 37) rfl ?_); refine goesL_ (some 72) rfl rfl Try.func37 (by kernel_rfl) rfl #[.agg #[.int .i64 a0_0, .slice A0_1 l0_1.length c0_1], .agg #[.int .i64 a1_0, .slice A1_1 l1_1.length c1_1]] rfl MP_ ?_; (with_reducible refine (zone_Meet.calls kj6 a0_0 _ _ l0_1 a1_0 _ _ l1_1 t655 t656 t659 _ ?side1 ?side2 ?side3 ?side4 A55.out).mono ?_); (case side1 => exact sd_ (Kd.C_below HR0_1.out HB.out)); (case side2 => exact HC0_1.out); (case side3 => exact sd_ (Kd.C_below HR1_1.out HB.out)); (case side4 => exact HC1_1.out); rintro e w65 ⟨v657, rfl, ho0, hb⟩; refine ⟨_, rfl, ?_⟩; have n_ := a_ (Aside0.mk (Kd.R_lower ho0 (below_size HB_))) (a_ (bb_ BK647 hb) (a_ (bb_ BK648 hb) (bs_ HB hb))); clear BK647 BK648 HB; obtain ⟨HO658, BK647, BK648, HB⟩ := n_; (try clear hb); (try clear hb2); (try clear hk); (try clear hi); (try clear ho0)) | ((with_reducible refine gate_dst (N := 13) rfl ?_); (try (refine gate_guard (by rfl) ?_; dsimp only)); refine bx_ (N := 13) (cs := #[.int .i64 0, .slice none 0 0]) (t := 24) ?_; intro gb660 hg w66 hbox hb; have n_ := a_ (rb_ HO658 hb) (a_ (bb_ BK647 hb) (a_ (bb_ BK648 hb) (a_ (bs_ HB hb) (a_ (Aside0.mk hbox) (a_ (gs_ HB hg) (a_ (gs_ HB hg) (a_ (nl_ BK647 hg) (a_ (ng_ BK647 hg) (a_ (nl_ BK648 hg) (ng_ BK648 hg)))))))))); clear HO658 BK647 BK648 HB; obtain ⟨HO658, BK647, BK648, HB, BK660, GW660, GE660, NB647_660, NB660_647, NB648_660, NB660_648⟩ := n_; clear hb hbox hg; have hnb67 := NB660_647.out; have hnc67 := NB647_660.out; have hnb68 := NB660_648.out; have hnc68 := NB648_660.out; obtain ⟨hcz69_0, hcz69_1, hfz69_0, hfz69_1⟩ := cz2_ BK660; obtain ⟨Ao70, co70, eo70⟩ := Kd.R_slice HO658.out; subst eo70; obtain ⟨hcz71_0, hcz71_1, hfz71_0, hfz71_1⟩ := cz2_ BK647; obtain ⟨hcz72_0, hcz72_1, hfz72_0, hfz72_1⟩ := cz2_ BK648) | ((with_reducible refine gate_callee (f := 35) rfl ?_); refine goesL_ (some 78) rfl rfl Try.func35 (by kernel_rfl) rfl #[.agg #[.int .i64 a0_0, .slice A0_1 l0_1.length c0_1], .agg #[.int .i64 a1_0, .slice A1_1 l1_1.length c1_1]] rfl MP_ ?_; (with_reducible refine (zone_Join.calls kj6 a0_0 _ _ l0_1 a1_0 _ _ l1_1 t661 t662 t665 _ ?side1 ?side2 ?side3 ?side4 A56.out).mono ?_); (case side1 => exact Kd.C_below HR0_1.out HB_); (case side2 => exact HC0_1.out); (case side3 => exact Kd.C_below HR1_1.out HB_); (case side4 => exact HC1_1.out); rintro e w73 ⟨v663, rfl, ho0, hb⟩; refine ⟨_, rfl, ?_⟩; have n_ := a_ (Aside0.mk (Kd.R_elder' (rd_ (rf2_ HO658 BK660 (.int .i64 t655) (.slice Ao70 t656.length co70))) (Kd.R_base ho0) hb)) (a_ (Aside0.mk (Kd.R_lower (Kd.R_new' ho0 (Kd.R_lt (rd_ (rf2_ HO658 BK660 (.int .i64 t655) (.slice Ao70 t656.length co70))))) (below_size HB_))) (a_ (bc_ #[.int .i64 a0_0, .slice A0_1 l0_1.length c0_1] 24 BK647 hb) (a_ (bc_ #[.int .i64 a1_0, .slice A1_1 l1_1.length c1_1] 24 BK648 hb) (a_ (bc_ #[.int .i64 t655, .slice Ao70 t656.length co70] 24 BK660 hb) (bs_ HB hb))))); clear HO658 BK647 BK648 BK660 HB; obtain ⟨HO658, HO664, BK647, BK648, BK660, HB⟩ := n_; (try clear hb); (try clear hb2); (try clear hk); (try clear hi); (try clear ho0)) | ((with_reducible refine gate_dst (N := 15) rfl ?_); (try (refine gate_guard (by rfl) ?_; dsimp only)); refine bx_ (N := 15) (cs := #[.int .i64 0, .slice none 0 0]) (t := 24) ?_; intro gb666 hg w74 hbox hb; have n_ := a_ (rb_ HO658 hb) (a_ (rb_ HO664 hb) (a_ (bb_ BK647 hb) (a_ (bb_ BK648 hb) (a_ (bb_ BK660 hb) (a_ (bs_ HB hb) (a_ (Aside0.mk hbox) (a_ (gs_ HB hg) (a_ (gs_ HB hg) (a_ (nl_ BK647 hg) (a_ (ng_ BK647 hg) (a_ (nl_ BK648 hg) (a_ (ng_ BK648 hg) (a_ (nl_ BK660 hg) (ng_ BK660 hg)))))))))))))); clear HO658 HO664 BK647 BK648 BK660 HB; obtain ⟨HO658, HO664, BK647, BK648, BK660, HB, BK666, GW666, GE666, NB647_666, NB666_647, NB648_666, NB666_648, NB660_666, NB666_660⟩ := n_; clear hb hbox hg; have hnb75 := NB666_647.out; have hnc75 := NB647_666.out; have hnb76 := NB666_648.out; have hnc76 := NB648_666.out; have hnb77 := NB666_660.out; have hnc77 := NB660_666.out; obtain ⟨hcz78_0, hcz78_1, hfz78_0, hfz78_1⟩ := cz2_ BK666; obtain ⟨Ao79, co79, eo79⟩ := Kd.R_slice HO664.out; subst eo79; obtain ⟨hcz80_0, hcz80_1, hfz80_0, hfz80_1⟩ := cz2_ BK647; obtain ⟨hcz81_0, hcz81_1, hfz81_0, hfz81_1⟩ := cz2_ BK648) | ((with_reducible refine gate_callee (f := 38) rfl ?_); refine goesL_ (some 84) rfl rfl Try.func38 (by kernel_rfl) rfl #[.agg #[.int .i64 a0_0, .slice A0_1 l0_1.length c0_1], .agg #[.int .i64 a1_0, .slice A1_1 l1_1.length c1_1]] rfl MP_ ?_; (with_reducible refine (zone_Widen.calls kj6 a0_0 _ _ l0_1 a1_0 _ _ l1_1 t667 t668 t671 _ ?side1 ?side2 ?side3 ?side4 A57.out).mono ?_); (case side1 => exact Kd.C_below HR0_1.out HB_); (case side2 => exact HC0_1.out); (case side3 => exact Kd.C_below HR1_1.out HB_); (case side4 => exact HC1_1.out); rintro e w82 ⟨v669, rfl, ho0, hb⟩; refine ⟨_, rfl, ?_⟩; have n_ := a_ (Aside0.mk (Kd.R_elder' (rd_ (rf2_ HO658 BK666 (.int .i64 t661) (.slice Ao79 t662.length co79))) (Kd.R_base ho0) hb)) (a_ (Aside0.mk (Kd.R_elder' (rd_ (rf2_ HO664 BK666 (.int .i64 t661) (.slice Ao79 t662.length co79))) (Kd.R_base ho0) hb)) (a_ (Aside0.mk (Kd.R_lower (Kd.R_new' (Kd.R_new' ho0 (Kd.R_lt (rd_ (rf2_ HO658 BK666 (.int .i64 t661) (.slice Ao79 t662.length co79))))) (Kd.R_lt (rd_ (rf2_ HO664 BK666 (.int .i64 t661) (.slice Ao79 t662.length co79))))) (below_size HB_))) (a_ (bc_ #[.int .i64 a0_0, .slice A0_1 l0_1.length c0_1] 24 BK647 hb) (a_ (bc_ #[.int .i64 a1_0, .slice A1_1 l1_1.length c1_1] 24 BK648 hb) (a_ (bc_ #[.int .i64 t655, .slice Ao70 t656.length co70] 24 BK660 hb) (a_ (bc_ #[.int .i64 t661, .slice Ao79 t662.length co79] 24 BK666 hb) (bs_ HB hb))))))); clear HO658 HO664 BK647 BK648 BK660 BK666 HB; obtain ⟨HO658, HO664, HO670, BK647, BK648, BK660, BK666, HB⟩ := n_; (try clear hb); (try clear hb2); (try clear hk); (try clear hi); (try clear ho0)) | ((with_reducible refine gate_dst (N := 17) rfl ?_); (try (refine gate_guard (by rfl) ?_; dsimp only)); refine bx_ (N := 17) (cs := #[.int .i64 0, .slice none 0 0]) (t := 24) ?_; intro gb672 hg w83 hbox hb; have n_ := a_ (rb_ HO658 hb) (a_ (rb_ HO664 hb) (a_ (rb_ HO670 hb) (a_ (bb_ BK647 hb) (a_ (bb_ BK648 hb) (a_ (bb_ BK660 hb) (a_ (bb_ BK666 hb) (a_ (bs_ HB hb) (a_ (Aside0.mk hbox) (a_ (gs_ HB hg) (a_ (gs_ HB hg) (a_ (nl_ BK647 hg) (a_ (ng_ BK647 hg) (a_ (nl_ BK648 hg) (a_ (ng_ BK648 hg) (a_ (nl_ BK660 hg) (a_ (ng_ BK660 hg) (a_ (nl_ BK666 hg) (ng_ BK666 hg)))))))))))))))))); clear HO658 HO664 HO670 BK647 BK648 BK660 BK666 HB; obtain ⟨HO658, HO664, HO670, BK647, BK648, BK660, BK666, HB, BK672, GW672, GE672, NB647_672, NB672_647, NB648_672, NB672_648, NB660_672, NB672_660, NB666_672, NB672_666⟩ := n_; clear hb hbox hg; have hnb84 := NB672_647.out; have hnc84 := NB647_672.out; have hnb85 := NB672_648.out; have hnc85 := NB648_672.out; have hnb86 := NB672_660.out; have hnc86 := NB660_672.out; have hnb87 := NB672_666.out; have hnc87 := NB666_672.out; obtain ⟨hcz88_0, hcz88_1, hfz88_0, hfz88_1⟩ := cz2_ BK672; obtain ⟨Ao89, co89, eo89⟩ := Kd.R_slice HO670.out; subst eo89; obtain ⟨hcz90_0, hcz90_1, hfz90_0, hfz90_1⟩ := cz2_ BK647) | ((with_reducible refine gate_callee (f := 23) rfl ?_); refine goesL_ (some 92) rfl rfl Try.func23 (by kernel_rfl) rfl #[.agg #[.int .i64 a0_0, .slice A0_1 l0_1.length c0_1], .int .i64 a3, .int .i64 a4, .int .i64 a5] rfl MP_ ?_; (with_reducible refine (zone_Limit.calls kj6 a0_0 _ _ l0_1 a3 a4 a5 t673 t674 t677 _ ?side1 ?side2 A58.out).mono ?_); (case side1 => exact Kd.C_below HR0_1.out HB_); (case side2 => exact HC0_1.out); rintro e w91 ⟨v675, rfl, ho0, hb⟩; refine ⟨_, rfl, ?_⟩; have n_ := a_ (Aside0.mk (Kd.R_elder' (rd_ (rf2_ HO658 BK672 (.int .i64 t667) (.slice Ao89 t668.length co89))) (Kd.R_base ho0) hb)) (a_ (Aside0.mk (Kd.R_elder' (rd_ (rf2_ HO664 BK672 (.int .i64 t667) (.slice Ao89 t668.length co89))) (Kd.R_base ho0) hb)) (a_ (Aside0.mk (Kd.R_elder' (rd_ (rf2_ HO670 BK672 (.int .i64 t667) (.slice Ao89 t668.length co89))) (Kd.R_base ho0) hb)) (a_ (Aside0.mk (Kd.R_lower (Kd.R_new' (Kd.R_new' (Kd.R_new' ho0 (Kd.R_lt (rd_ (rf2_ HO658 BK672 (.int .i64 t667) (.slice Ao89 t668.length co89))))) (Kd.R_lt (rd_ (rf2_ HO664 BK672 (.int .i64 t667) (.slice Ao89 t668.length co89))))) (Kd.R_lt (rd_ (rf2_ HO670 BK672 (.int .i64 t667) (.slice Ao89 t668.length co89))))) (below_size HB_))) (a_ (bc_ #[.int .i64 a0_0, .slice A0_1 l0_1.length c0_1] 24 BK647 hb) (a_ (bc_ #[.int .i64 a1_0, .slice A1_1 l1_1.length c1_1] 24 BK648 hb) (a_ (bc_ #[.int .i64 t655, .slice Ao70 t656.length co70] 24 BK660 hb) (a_ (bc_ #[.int .i64 t661, .slice Ao79 t662.length co79] 24 BK666 hb) (a_ (bc_ #[.int .i64 t667, .slice Ao89 t668.length co89] 24 BK672 hb) (bs_ HB hb))))))))); clear HO658 HO664 HO670 BK647 BK648 BK660 BK666 BK672 HB; obtain ⟨HO658, HO664, HO670, HO676, BK647, BK648, BK660, BK666, BK672, HB⟩ := n_; (try clear hb); (try clear hb2); (try clear hk); (try clear hi); (try clear ho0)) | ((with_reducible refine gate_dst (N := 19) rfl ?_); (try (refine gate_guard (by rfl) ?_; dsimp only)); refine bx_ (N := 19) (cs := #[.int .i64 0, .slice none 0 0]) (t := 24) ?_; intro gb678 hg w92 hbox hb; have n_ := a_ (rb_ HO658 hb) (a_ (rb_ HO664 hb) (a_ (rb_ HO670 hb) (a_ (rb_ HO676 hb) (a_ (bb_ BK647 hb) (a_ (bb_ BK648 hb) (a_ (bb_ BK660 hb) (a_ (bb_ BK666 hb) (a_ (bb_ BK672 hb) (a_ (bs_ HB hb) (a_ (Aside0.mk hbox) (a_ (gs_ HB hg) (a_ (gs_ HB hg) (a_ (nl_ BK647 hg) (a_ (ng_ BK647 hg) (a_ (nl_ BK648 hg) (a_ (ng_ BK648 hg) (a_ (nl_ BK660 hg) (a_ (ng_ BK660 hg) (a_ (nl_ BK666 hg) (a_ (ng_ BK666 hg) (a_ (nl_ BK672 hg) (ng_ BK672 hg)))))))))))))))))))))); clear HO658 HO664 HO670 HO676 BK647 BK648 BK660 BK666 BK672 HB; obtain ⟨HO658, HO664, HO670, HO676, BK647, BK648, BK660, BK666, BK672, HB, BK678, GW678, GE678, NB647_678, NB678_647, NB648_678, NB678_648, NB660_678, NB678_660, NB666_678, NB678_666, NB672_678, NB678_672⟩ := n_; clear hb hbox hg; have hnb93 := NB678_647.out; have hnc93 := NB647_678.out; have hnb94 := NB678_648.out; have hnc94 := NB648_678.out; have hnb95 := NB678_660.out; have hnc95 := NB660_678.out; have hnb96 := NB678_666.out; have hnc96 := NB666_678.out; have hnb97 := NB678_672.out; have hnc97 := NB672_678.out; obtain ⟨hcz98_0, hcz98_1, hfz98_0, hfz98_1⟩ := cz2_ BK678; obtain ⟨Ao99, co99, eo99⟩ := Kd.R_slice HO676.out; subst eo99))
      have n0_ : Aside0 (Kd.R (Kd.int .i64) 3 ((w92.setCell ⟨gb678, 0, none⟩ (.int .i64 t673)).setCell ⟨gb678, 1, none⟩ (.slice Ao99 t674.length co99)) w.heap.size (fun k_ => some k_ ≠ (.slice Ao79 t662.length co79 : Value).ownBlock ∧ some k_ ≠ (.slice Ao89 t668.length co89 : Value).ownBlock ∧ some k_ ≠ (.slice Ao99 t674.length co99 : Value).ownBlock) (.slice Ao70 t656.length co70) t656) := ⟨by (with_reducible repeat (first | apply Kd.R_alloc | apply Kd.R_drewN | apply Kd.R_drew)); exact Kd.R_mono (Kd.R_far (p := ⟨gb678, 1, none⟩) (Kd.R_far (p := ⟨gb678, 0, none⟩) (Kd.R_types HO658.out BK678.out (by decide)) (fun _ hk => hk.2) (.int .i64 t673)) (fun _ hk => hk.2) (.slice Ao99 t674.length co99)) (fun _ hk => ⟨hk.1.1.1.2, ⟨hk.1.1.2, hk.1.2⟩⟩)⟩
      have n1_ : Aside0 (Kd.R (Kd.int .i64) 3 ((w92.setCell ⟨gb678, 0, none⟩ (.int .i64 t673)).setCell ⟨gb678, 1, none⟩ (.slice Ao99 t674.length co99)) w.heap.size (fun k_ => some k_ ≠ (.slice Ao70 t656.length co70 : Value).ownBlock ∧ some k_ ≠ (.slice Ao89 t668.length co89 : Value).ownBlock ∧ some k_ ≠ (.slice Ao99 t674.length co99 : Value).ownBlock) (.slice Ao79 t662.length co79) t662) := ⟨by (with_reducible repeat (first | apply Kd.R_alloc | apply Kd.R_drewN | apply Kd.R_drew)); exact Kd.R_mono (Kd.R_far (p := ⟨gb678, 1, none⟩) (Kd.R_far (p := ⟨gb678, 0, none⟩) (Kd.R_types HO664.out BK678.out (by decide)) (fun _ hk => hk.2) (.int .i64 t673)) (fun _ hk => hk.2) (.slice Ao99 t674.length co99)) (fun _ hk => ⟨hk.1.1.1.2, ⟨hk.1.1.2, hk.1.2⟩⟩)⟩
      have n2_ : Aside0 (Kd.R (Kd.int .i64) 3 ((w92.setCell ⟨gb678, 0, none⟩ (.int .i64 t673)).setCell ⟨gb678, 1, none⟩ (.slice Ao99 t674.length co99)) w.heap.size (fun k_ => some k_ ≠ (.slice Ao70 t656.length co70 : Value).ownBlock ∧ some k_ ≠ (.slice Ao79 t662.length co79 : Value).ownBlock ∧ some k_ ≠ (.slice Ao99 t674.length co99 : Value).ownBlock) (.slice Ao89 t668.length co89) t668) := ⟨by (with_reducible repeat (first | apply Kd.R_alloc | apply Kd.R_drewN | apply Kd.R_drew)); exact Kd.R_mono (Kd.R_far (p := ⟨gb678, 1, none⟩) (Kd.R_far (p := ⟨gb678, 0, none⟩) (Kd.R_types HO670.out BK678.out (by decide)) (fun _ hk => hk.2) (.int .i64 t673)) (fun _ hk => hk.2) (.slice Ao99 t674.length co99)) (fun _ hk => ⟨hk.1.1.1.2, ⟨hk.1.1.2, hk.1.2⟩⟩)⟩
      have n3_ : Aside0 (Kd.R (Kd.int .i64) 3 ((w92.setCell ⟨gb678, 0, none⟩ (.int .i64 t673)).setCell ⟨gb678, 1, none⟩ (.slice Ao99 t674.length co99)) w.heap.size (fun k_ => some k_ ≠ (.slice Ao70 t656.length co70 : Value).ownBlock ∧ some k_ ≠ (.slice Ao79 t662.length co79 : Value).ownBlock ∧ some k_ ≠ (.slice Ao89 t668.length co89 : Value).ownBlock) (.slice Ao99 t674.length co99) t674) := ⟨by (with_reducible repeat (first | apply Kd.R_alloc | apply Kd.R_drewN | apply Kd.R_drew)); exact Kd.R_mono (Kd.R_far (p := ⟨gb678, 1, none⟩) (Kd.R_far (p := ⟨gb678, 0, none⟩) (Kd.R_types HO676.out BK678.out (by decide)) (fun _ hk => hk.2) (.int .i64 t673)) (fun _ hk => hk.2) (.slice Ao99 t674.length co99)) (fun _ hk => ⟨hk.1.1.1.2, ⟨hk.1.1.2, hk.1.2⟩⟩)⟩
      have n4_ : Aside0 (((w92.setCell ⟨gb678, 0, none⟩ (.int .i64 t673)).setCell ⟨gb678, 1, none⟩ (.slice Ao99 t674.length co99)).heap[gb647]? = some (.cells #[.int .i64 a0_0, .slice A0_1 l0_1.length c0_1] 24 (0, 0))) := ⟨by (with_reducible repeat (first | refine blk_drewN ?_ _ | refine blk_drew ?_ | refine blk_alloc ?_ _)); refine blk_far ?_ NB647_678.out _; (with_reducible repeat (first | refine blk_drewN ?_ _ | refine blk_drew ?_ | refine blk_alloc ?_ _)); refine blk_far ?_ NB647_678.out _; (with_reducible repeat (first | refine blk_drewN ?_ _ | refine blk_drew ?_ | refine blk_alloc ?_ _)); exact BK647.out⟩
      have n5_ : Aside0 (((w92.setCell ⟨gb678, 0, none⟩ (.int .i64 t673)).setCell ⟨gb678, 1, none⟩ (.slice Ao99 t674.length co99)).heap[gb648]? = some (.cells #[.int .i64 a1_0, .slice A1_1 l1_1.length c1_1] 24 (0, 0))) := ⟨by (with_reducible repeat (first | refine blk_drewN ?_ _ | refine blk_drew ?_ | refine blk_alloc ?_ _)); refine blk_far ?_ NB648_678.out _; (with_reducible repeat (first | refine blk_drewN ?_ _ | refine blk_drew ?_ | refine blk_alloc ?_ _)); refine blk_far ?_ NB648_678.out _; (with_reducible repeat (first | refine blk_drewN ?_ _ | refine blk_drew ?_ | refine blk_alloc ?_ _)); exact BK648.out⟩
      have n6_ : Aside0 (((w92.setCell ⟨gb678, 0, none⟩ (.int .i64 t673)).setCell ⟨gb678, 1, none⟩ (.slice Ao99 t674.length co99)).heap[gb660]? = some (.cells #[.int .i64 t655, .slice Ao70 t656.length co70] 24 (0, 0))) := ⟨by (with_reducible repeat (first | refine blk_drewN ?_ _ | refine blk_drew ?_ | refine blk_alloc ?_ _)); refine blk_far ?_ NB660_678.out _; (with_reducible repeat (first | refine blk_drewN ?_ _ | refine blk_drew ?_ | refine blk_alloc ?_ _)); refine blk_far ?_ NB660_678.out _; (with_reducible repeat (first | refine blk_drewN ?_ _ | refine blk_drew ?_ | refine blk_alloc ?_ _)); exact BK660.out⟩
      have n7_ : Aside0 (((w92.setCell ⟨gb678, 0, none⟩ (.int .i64 t673)).setCell ⟨gb678, 1, none⟩ (.slice Ao99 t674.length co99)).heap[gb666]? = some (.cells #[.int .i64 t661, .slice Ao79 t662.length co79] 24 (0, 0))) := ⟨by (with_reducible repeat (first | refine blk_drewN ?_ _ | refine blk_drew ?_ | refine blk_alloc ?_ _)); refine blk_far ?_ NB666_678.out _; (with_reducible repeat (first | refine blk_drewN ?_ _ | refine blk_drew ?_ | refine blk_alloc ?_ _)); refine blk_far ?_ NB666_678.out _; (with_reducible repeat (first | refine blk_drewN ?_ _ | refine blk_drew ?_ | refine blk_alloc ?_ _)); exact BK666.out⟩
      have n8_ : Aside0 (((w92.setCell ⟨gb678, 0, none⟩ (.int .i64 t673)).setCell ⟨gb678, 1, none⟩ (.slice Ao99 t674.length co99)).heap[gb672]? = some (.cells #[.int .i64 t667, .slice Ao89 t668.length co89] 24 (0, 0))) := ⟨by (with_reducible repeat (first | refine blk_drewN ?_ _ | refine blk_drew ?_ | refine blk_alloc ?_ _)); refine blk_far ?_ NB672_678.out _; (with_reducible repeat (first | refine blk_drewN ?_ _ | refine blk_drew ?_ | refine blk_alloc ?_ _)); refine blk_far ?_ NB672_678.out _; (with_reducible repeat (first | refine blk_drewN ?_ _ | refine blk_drew ?_ | refine blk_alloc ?_ _)); exact BK672.out⟩
      have n9_ : Aside0 (((w92.setCell ⟨gb678, 0, none⟩ (.int .i64 t673)).setCell ⟨gb678, 1, none⟩ (.slice Ao99 t674.length co99)).heap[gb678]? = some (.cells #[.int .i64 t673, .slice Ao99 t674.length co99] 24 (0, 0))) := ⟨by (with_reducible repeat (first | refine blk_drewN ?_ _ | refine blk_drew ?_ | refine blk_alloc ?_ _)); refine blk_put (cs := #[.int .i64 t673, .slice none 0 0]) ?_ 1 _ rfl; (with_reducible repeat (first | refine blk_drewN ?_ _ | refine blk_drew ?_ | refine blk_alloc ?_ _)); refine blk_put (cs := #[.int .i64 0, .slice none 0 0]) ?_ 0 _ rfl; (with_reducible repeat (first | refine blk_drewN ?_ _ | refine blk_drew ?_ | refine blk_alloc ?_ _)); exact BK678.out⟩
      have n10_ : Aside0 (Below w.heap.size w ((w92.setCell ⟨gb678, 0, none⟩ (.int .i64 t673)).setCell ⟨gb678, 1, none⟩ (.slice Ao99 t674.length co99))) := ⟨HB_⟩
      (try clear HO658)
      (try clear HO664)
      (try clear HO670)
      (try clear HO676)
      (try clear BK647)
      (try clear BK648)
      (try clear BK660)
      (try clear BK666)
      (try clear BK672)
      (try clear BK678)
      (try clear HB)
      generalize ((w92.setCell ⟨gb678, 0, none⟩ (.int .i64 t673)).setCell ⟨gb678, 1, none⟩ (.slice Ao99 t674.length co99)) = w100 at n0_ n1_ n2_ n3_ n4_ n5_ n6_ n7_ n8_ n9_ n10_ ⊢
      have HO658 := n0_
      have HO664 := n1_
      have HO670 := n2_
      have HO676 := n3_
      have BK647 := n4_
      have BK648 := n5_
      have BK660 := n6_
      have BK666 := n7_
      have BK672 := n8_
      have BK678 := n9_
      have HB := n10_
      clear n0_ n1_ n2_ n3_ n4_ n5_ n6_ n7_ n8_ n9_ n10_
      first | (obtain ⟨w100, hq_⟩ : ∃ x, x = w100.drewN nd := ⟨_, rfl⟩; rw [← hq_]; have q0_ := Aside0.mk (Kd.R_drewN HO658.out nd); rw [← hq_] at q0_; have q1_ := Aside0.mk (Kd.R_drewN HO664.out nd); rw [← hq_] at q1_; have q2_ := Aside0.mk (Kd.R_drewN HO670.out nd); rw [← hq_] at q2_; have q3_ := Aside0.mk (Kd.R_drewN HO676.out nd); rw [← hq_] at q3_; have q4_ := Aside0.mk (blk_drewN BK647.out nd); rw [← hq_] at q4_; have q5_ := Aside0.mk (blk_drewN BK648.out nd); rw [← hq_] at q5_; have q6_ := Aside0.mk (blk_drewN BK660.out nd); rw [← hq_] at q6_; have q7_ := Aside0.mk (blk_drewN BK666.out nd); rw [← hq_] at q7_; have q8_ := Aside0.mk (blk_drewN BK672.out nd); rw [← hq_] at q8_; have q9_ := Aside0.mk (blk_drewN BK678.out nd); rw [← hq_] at q9_; clear HO658; clear HO664; clear HO670; clear HO676; clear BK647; clear BK648; clear BK660; clear BK666; clear BK672; clear BK678; have HO658 := q0_; have HO664 := q1_; have HO670 := q2_; have HO676 := q3_; have BK647 := q4_; have BK648 := q5_; have BK660 := q6_; have BK666 := q7_; have BK672 := q8_; have BK678 := q9_; clear hq_ q0_ q1_ q2_ q3_ q4_ q5_ q6_ q7_ q8_ q9_) | skip
      have n_ := a_ (Aside0.mk (Kd.R_drew HO658.out)) (a_ (Aside0.mk (Kd.R_drew HO664.out)) (a_ (Aside0.mk (Kd.R_drew HO670.out)) (a_ (Aside0.mk (Kd.R_drew HO676.out)) (a_ (Aside0.mk (blk_drew BK647.out)) (a_ (Aside0.mk (blk_drew BK648.out)) (a_ (Aside0.mk (blk_drew BK660.out)) (a_ (Aside0.mk (blk_drew BK666.out)) (a_ (Aside0.mk (blk_drew BK672.out)) (a_ (Aside0.mk (blk_drew BK678.out)) (Aside0.mk (below_drew1 HB.out)))))))))))
      clear HO658 HO664 HO670 HO676 BK647 BK648 BK660 BK666 BK672 BK678 HB
      obtain ⟨HO658, HO664, HO670, HO676, BK647, BK648, BK660, BK666, BK672, BK678, HB⟩ := n_
      refine start_ (n := 8) (S := fun w' => w'.cell? ⟨gb647, 0, none⟩ = some (.int .i64 a0_0) ∧ w'.cell? ⟨gb647, 1, none⟩ = some (.slice A0_1 l0_1.length c0_1) ∧ w'.cell? ⟨gb648, 0, none⟩ = some (.int .i64 a1_0) ∧ w'.cell? ⟨gb648, 1, none⟩ = some (.slice A1_1 l1_1.length c1_1)) (ds := []) #[false, false, false, false, false, false, false, false] (by kernel_rfl) rfl rfl ⟨(blk_cell BK647.out 0).trans rfl, (blk_cell BK647.out 1).trans rfl, (blk_cell BK648.out 0).trans rfl, (blk_cell BK648.out 1).trans rfl⟩ (fun hHeld => ?_); refine with_tabW warrantorlaw09_ZoneHas_v1.tab7 warrantorlaw09_ZoneHas_v1.bits7 (fun HT_ HW_ => ?_)
      generalize w100.drew = w101 at HO658 HO664 HO670 HO676 BK647 BK648 BK660 BK666 BK672 BK678 HB hHeld ⊢
      refine pu_ 1 (some 96) ?_
      refine pu_ 4 (some 99) ?_
      refine take_ (i := 0) (N := some 95) (v := ?_) (a' := ?_) #[true, true, false, false, true, false, false, false] rfl rfl (take_ofW HT_.out HW_.out (by kernel_rfl)) (fun _ _ _ h => h) (Or.inl ⟨by rfl, ?_⟩) hHeld ?_ ?_
      rotate_left
      · rintro w' ⟨s0, s1, s2, s3⟩
        go_simp
        with_reducible rfl
      rotate_left
      · exact AP_
      refine take_ (i := 3) (N := some 98) (v := ?_) (a' := ?_) #[true, true, false, true, true, false, false, false] rfl rfl (take_ofW HT_.out HW_.out (by kernel_rfl)) (fun _ _ _ h => h) (Or.inl ⟨by rfl, ?_⟩) hHeld ?_ ?_
      rotate_left
      · rintro w' ⟨s0, s1, s2, s3⟩
        go_simp
        with_reducible rfl
      rotate_left
      · exact AP_
      refine on_ 2 (some 97) (fun K hK => ?_)
      refine goes_ Try.func45 (by kernel_rfl) rfl #[.agg #[.int .i64 a0_0, .slice A0_1 l0_1.length c0_1], .slice A2 l2.length c2] (by rfl) rfl rfl MP_ ?_
      with_reducible refine (dbm_Has.calls kj6 a0_0 _ _ l0_1 _ _ l2 t679 _ ?side1 ?side2 ?side3 ?side4 A59.out).mono ?_
      (case side1 => exact sd_ (Kd.C_below HR0_1.out HB.out))
      (case side2 => exact HC0_1.out)
      (case side3 => exact sd_ (Kd.C_below HR2.out HB.out))
      (case side4 => exact HC2.out)
      rintro e w102 ⟨rfl, hb⟩
      refine ⟨_, rfl, ?_⟩
      have n_ := a_ (rb_ HO658 hb) (a_ (rb_ HO664 hb) (a_ (rb_ HO670 hb) (a_ (rb_ HO676 hb) (a_ (bb_ BK647 hb) (a_ (bb_ BK648 hb) (a_ (bb_ BK660 hb) (a_ (bb_ BK666 hb) (a_ (bb_ BK672 hb) (a_ (bb_ BK678 hb) (bs_ HB hb))))))))))
      clear HO658 HO664 HO670 HO676 BK647 BK648 BK660 BK666 BK672 BK678 HB
      obtain ⟨HO658, HO664, HO670, HO676, BK647, BK648, BK660, BK666, BK672, BK678, HB⟩ := n_
      (try clear hb)
      (try clear hb2)
      (try clear hk)
      (try clear hi)
      refine hK.out _ _ ⟨(blk_cell BK647.out 0).trans rfl, (blk_cell BK647.out 1).trans rfl, (blk_cell BK648.out 0).trans rfl, (blk_cell BK648.out 1).trans rfl⟩ (fun hHeld => ?_)
      clear hK K
      refine nm_ ?_
      refine on_ 5 (some 100) (fun K hK => ?_)
      refine goes_ Try.func45 (by kernel_rfl) rfl #[.agg #[.int .i64 a1_0, .slice A1_1 l1_1.length c1_1], .slice A2 l2.length c2] (by rfl) rfl rfl MP_ ?_
      with_reducible refine (dbm_Has.calls kj6 a1_0 _ _ l1_1 _ _ l2 t680 _ ?side1 ?side2 ?side3 ?side4 A60.out).mono ?_
      (case side1 => exact sd_ (Kd.C_below HR1_1.out HB.out))
      (case side2 => exact HC1_1.out)
      (case side3 => exact sd_ (Kd.C_below HR2.out HB.out))
      (case side4 => exact HC2.out)
      rintro e w103 ⟨rfl, hb⟩
      refine ⟨_, rfl, ?_⟩
      have n_ := a_ (rb_ HO658 hb) (a_ (rb_ HO664 hb) (a_ (rb_ HO670 hb) (a_ (rb_ HO676 hb) (a_ (bb_ BK647 hb) (a_ (bb_ BK648 hb) (a_ (bb_ BK660 hb) (a_ (bb_ BK666 hb) (a_ (bb_ BK672 hb) (a_ (bb_ BK678 hb) (bs_ HB hb))))))))))
      clear HO658 HO664 HO670 HO676 BK647 BK648 BK660 BK666 BK672 BK678 HB
      obtain ⟨HO658, HO664, HO670, HO676, BK647, BK648, BK660, BK666, BK672, BK678, HB⟩ := n_
      (try clear hb)
      (try clear hb2)
      (try clear hk)
      (try clear hi)
      refine hK.out _ _ ⟨(blk_cell BK647.out 0).trans rfl, (blk_cell BK647.out 1).trans rfl, (blk_cell BK648.out 0).trans rfl, (blk_cell BK648.out 1).trans rfl⟩ (fun hHeld => ?_)
      clear hK K
      refine nm_ ?_
      refine pu_ 6 (some 21) ?_
      refine pu_ 7 (some 22) ?_
      refine done_ (done_of HT_.out (by kernel_rfl)) ?_
      go_upto_region 8 with (fail)
      go_cut [130] (fun v130 wc => ∃ (kq : Nat) (x130_60 : Bool), v130 = .bool x130_60 ∧ Aside0 (warrantorlaw09_ZoneHas_v1.j1 kq l2 a3 t679 x130_60 a0_0 l0_1 t673 t674 = some r) ∧ Aside0 (kq ≤ kj6) ∧ Aside0 (Kd.R (Kd.int .i64) 3 wc w.heap.size (fun k_ => some k_ ≠ ((.slice Ao79 t662.length co79) : Value).ownBlock ∧ some k_ ≠ ((.slice Ao89 t668.length co89) : Value).ownBlock ∧ some k_ ≠ ((.slice Ao99 t674.length co99) : Value).ownBlock) (.slice Ao70 t656.length co70) t656) ∧ Aside0 (Kd.R (Kd.int .i64) 3 wc w.heap.size (fun k_ => some k_ ≠ ((.slice Ao70 t656.length co70) : Value).ownBlock ∧ some k_ ≠ ((.slice Ao89 t668.length co89) : Value).ownBlock ∧ some k_ ≠ ((.slice Ao99 t674.length co99) : Value).ownBlock) (.slice Ao79 t662.length co79) t662) ∧ Aside0 (Kd.R (Kd.int .i64) 3 wc w.heap.size (fun k_ => some k_ ≠ ((.slice Ao70 t656.length co70) : Value).ownBlock ∧ some k_ ≠ ((.slice Ao79 t662.length co79) : Value).ownBlock ∧ some k_ ≠ ((.slice Ao99 t674.length co99) : Value).ownBlock) (.slice Ao89 t668.length co89) t668) ∧ Aside0 (Kd.R (Kd.int .i64) 3 wc w.heap.size (fun k_ => some k_ ≠ ((.slice Ao70 t656.length co70) : Value).ownBlock ∧ some k_ ≠ ((.slice Ao79 t662.length co79) : Value).ownBlock ∧ some k_ ≠ ((.slice Ao89 t668.length co89) : Value).ownBlock) (.slice Ao99 t674.length co99) t674) ∧ Aside0 (wc.heap[gb647]? = some (.cells #[.int .i64 a0_0, (.slice A0_1 l0_1.length c0_1)] 24 (0, 0))) ∧ Aside0 (wc.heap[gb648]? = some (.cells #[.int .i64 a1_0, (.slice A1_1 l1_1.length c1_1)] 24 (0, 0))) ∧ Aside0 (wc.heap[gb660]? = some (.cells #[.int .i64 t655, (.slice Ao70 t656.length co70)] 24 (0, 0))) ∧ Aside0 (wc.heap[gb666]? = some (.cells #[.int .i64 t661, (.slice Ao79 t662.length co79)] 24 (0, 0))) ∧ Aside0 (wc.heap[gb672]? = some (.cells #[.int .i64 t667, (.slice Ao89 t668.length co89)] 24 (0, 0))) ∧ Aside0 (wc.heap[gb678]? = some (.cells #[.int .i64 t673, (.slice Ao99 t674.length co99)] 24 (0, 0))) ∧ Aside0 (Below w.heap.size w wc))
      case first =>
        have H := HC61.out
        clear HC61
        replace H := bd_ H
        obtain ⟨t681, A104, H⟩ := H
        (try dsimp only at H)
        replace H := yes_ H
        obtain ⟨c105, H⟩ := H
        subst c105
        replace H := bd_ H
        obtain ⟨t682, A106, H⟩ := H
        (try dsimp only at H)
        by_cases c107 : t679 = true
        · subst c107
          replace H := ps1_ H
          exact absurd H (by simp)
        replace c107 := Bool.eq_false_iff.mpr c107
        subst c107
        replace H := ng1_ H
        by_cases c108 : (t682 != false) = true
        · rw [if_pos c108] at H
          exact absurd H (by simp)
        rw [if_neg c108] at H
        have c108b0 : (t682 != false) = false := by simpa using c108
        (try (have c108b1 : decide (t682 = false) = true := by simpa using c108))
        (try (have c108b2 : (t682 == false) = true := by simpa using c108))
        clear c108
        (first | rw [c108b0] | (simp only [i64_w, i32_w]; rw [c108b0]) | skip)
        by_cases c109 : t680 = true
        rotate_left
        · replace c109 := Bool.eq_false_iff.mpr c109
          subst c109
          replace H := ng1_ H
          have H' := Aside0.mk H
          clear H
          go_wp2_with (first | ((with_reducible refine gate_callee (f := 22) rfl ?_); refine goesL_ (some 101) rfl rfl Try.func22 (by kernel_rfl) rfl #[] rfl MP_ ?_; (with_reducible refine (warrantorlaw09_lives.calls kj6  true _ A104.out).mono ?_); rintro e w132 ⟨rfl, hb⟩; refine ⟨_, rfl, ?_⟩; have n_ := a_ (rb_ HO658 hb) (a_ (rb_ HO664 hb) (a_ (rb_ HO670 hb) (a_ (rb_ HO676 hb) (a_ (bb_ BK647 hb) (a_ (bb_ BK648 hb) (a_ (bb_ BK660 hb) (a_ (bb_ BK666 hb) (a_ (bb_ BK672 hb) (a_ (bb_ BK678 hb) (bs_ HB hb)))))))))); clear HO658 HO664 HO670 HO676 BK647 BK648 BK660 BK666 BK672 BK678 HB; obtain ⟨HO658, HO664, HO670, HO676, BK647, BK648, BK660, BK666, BK672, BK678, HB⟩ := n_; (try clear hb); (try clear hb2); (try clear hk); (try clear hi); have hnb133 := NB660_647.out; have hnc133 := NB647_660.out; have hnb134 := NB660_648.out; have hnc134 := NB648_660.out; have hnb135 := NB660_666.out; have hnc135 := NB666_660.out; have hnb136 := NB660_672.out; have hnc136 := NB672_660.out; have hnb137 := NB660_678.out; have hnc137 := NB678_660.out; obtain ⟨hcz138_0, hcz138_1, hfz138_0, hfz138_1⟩ := cz2_ BK660) | (go_at_call 45; (with_reducible refine (dbm_Has.calls kj6 t655 _ _ t656 _ _ l2 t682 _ ?side1 ?side2 ?side3 ?side4 A106.out).mono ?_); (case side1 => repeat (first | exact (Kd.R_reads' HO658.out).2.2 | (with_reducible refine Kd.C_alloc ?_ _) | (with_reducible refine Kd.C_drewN ?_ _) | (with_reducible refine Kd.C_drew ?_))); (case side2 => exact (Kd.R_reads' HO658.out).2.1); (case side3 => exact sd_ (Kd.C_below HR2.out HB.out)); (case side4 => exact HC2.out); rintro e w139 ⟨rfl, hb⟩; have n_ := a_ (rb_ HO658 hb) (a_ (rb_ HO664 hb) (a_ (rb_ HO670 hb) (a_ (rb_ HO676 hb) (a_ (bb_ BK647 hb) (a_ (bb_ BK648 hb) (a_ (bb_ BK660 hb) (a_ (bb_ BK666 hb) (a_ (bb_ BK672 hb) (a_ (bb_ BK678 hb) (bs_ HB hb)))))))))); clear HO658 HO664 HO670 HO676 BK647 BK648 BK660 BK666 BK672 BK678 HB; obtain ⟨HO658, HO664, HO670, HO676, BK647, BK648, BK660, BK666, BK672, BK678, HB⟩ := n_; (try clear hb); (try clear hb2); (try clear hk); (try clear hi)))
          go_meet
          case rel => exact ⟨_, (false), (by first | rfl | (simp; done) | (simp [*]; done)), H', ⟨by have := HJ6.out; first | omega | exact Nat.le_refl _⟩, ⟨by (with_reducible repeat (first | apply Kd.R_alloc | apply Kd.R_drewN | apply Kd.R_drew)); exact HO658.out⟩, ⟨by (with_reducible repeat (first | apply Kd.R_alloc | apply Kd.R_drewN | apply Kd.R_drew)); exact HO664.out⟩, ⟨by (with_reducible repeat (first | apply Kd.R_alloc | apply Kd.R_drewN | apply Kd.R_drew)); exact HO670.out⟩, ⟨by (with_reducible repeat (first | apply Kd.R_alloc | apply Kd.R_drewN | apply Kd.R_drew)); exact HO676.out⟩, ⟨by (with_reducible repeat (first | refine blk_drewN ?_ _ | refine blk_drew ?_ | refine blk_alloc ?_ _)); exact BK647.out⟩, ⟨by (with_reducible repeat (first | refine blk_drewN ?_ _ | refine blk_drew ?_ | refine blk_alloc ?_ _)); exact BK648.out⟩, ⟨by (with_reducible repeat (first | refine blk_drewN ?_ _ | refine blk_drew ?_ | refine blk_alloc ?_ _)); exact BK660.out⟩, ⟨by (with_reducible repeat (first | refine blk_drewN ?_ _ | refine blk_drew ?_ | refine blk_alloc ?_ _)); exact BK666.out⟩, ⟨by (with_reducible repeat (first | refine blk_drewN ?_ _ | refine blk_drew ?_ | refine blk_alloc ?_ _)); exact BK672.out⟩, ⟨by (with_reducible repeat (first | refine blk_drewN ?_ _ | refine blk_drew ?_ | refine blk_alloc ?_ _)); exact BK678.out⟩, ⟨HB_⟩⟩
        subst c109
        replace H := ps1_ H
        replace H := bd_ H
        obtain ⟨t683, A110, H⟩ := H
        (try dsimp only at H)
        replace H := yes_ H
        obtain ⟨c111, H⟩ := H
        subst c111
        replace H := bd_ H
        obtain ⟨t684, A112, H⟩ := H
        (try dsimp only at H)
        have H' := Aside0.mk H
        clear H
        go_wp2_with (first | ((with_reducible refine gate_callee (f := 22) rfl ?_); refine goesL_ (some 101) rfl rfl Try.func22 (by kernel_rfl) rfl #[] rfl MP_ ?_; (with_reducible refine (warrantorlaw09_lives.calls kj6  true _ A104.out).mono ?_); rintro e w113 ⟨rfl, hb⟩; refine ⟨_, rfl, ?_⟩; have n_ := a_ (rb_ HO658 hb) (a_ (rb_ HO664 hb) (a_ (rb_ HO670 hb) (a_ (rb_ HO676 hb) (a_ (bb_ BK647 hb) (a_ (bb_ BK648 hb) (a_ (bb_ BK660 hb) (a_ (bb_ BK666 hb) (a_ (bb_ BK672 hb) (a_ (bb_ BK678 hb) (bs_ HB hb)))))))))); clear HO658 HO664 HO670 HO676 BK647 BK648 BK660 BK666 BK672 BK678 HB; obtain ⟨HO658, HO664, HO670, HO676, BK647, BK648, BK660, BK666, BK672, BK678, HB⟩ := n_; (try clear hb); (try clear hb2); (try clear hk); (try clear hi); have hnb114 := NB660_647.out; have hnc114 := NB647_660.out; have hnb115 := NB660_648.out; have hnc115 := NB648_660.out; have hnb116 := NB660_666.out; have hnc116 := NB666_660.out; have hnb117 := NB660_672.out; have hnc117 := NB672_660.out; have hnb118 := NB660_678.out; have hnc118 := NB678_660.out; obtain ⟨hcz119_0, hcz119_1, hfz119_0, hfz119_1⟩ := cz2_ BK660) | (go_at_call 45; (with_reducible refine (dbm_Has.calls kj6 t655 _ _ t656 _ _ l2 t682 _ ?side1 ?side2 ?side3 ?side4 A106.out).mono ?_); (case side1 => repeat (first | exact (Kd.R_reads' HO658.out).2.2 | (with_reducible refine Kd.C_alloc ?_ _) | (with_reducible refine Kd.C_drewN ?_ _) | (with_reducible refine Kd.C_drew ?_))); (case side2 => exact (Kd.R_reads' HO658.out).2.1); (case side3 => exact sd_ (Kd.C_below HR2.out HB.out)); (case side4 => exact HC2.out); rintro e w120 ⟨rfl, hb⟩; have n_ := a_ (rb_ HO658 hb) (a_ (rb_ HO664 hb) (a_ (rb_ HO670 hb) (a_ (rb_ HO676 hb) (a_ (bb_ BK647 hb) (a_ (bb_ BK648 hb) (a_ (bb_ BK660 hb) (a_ (bb_ BK666 hb) (a_ (bb_ BK672 hb) (a_ (bb_ BK678 hb) (bs_ HB hb)))))))))); clear HO658 HO664 HO670 HO676 BK647 BK648 BK660 BK666 BK672 BK678 HB; obtain ⟨HO658, HO664, HO670, HO676, BK647, BK648, BK660, BK666, BK672, BK678, HB⟩ := n_; (try clear hb); (try clear hb2); (try clear hk); (try clear hi); have hnb121 := NB666_647.out; have hnc121 := NB647_666.out; have hnb122 := NB666_648.out; have hnc122 := NB648_666.out; have hnb123 := NB666_672.out; have hnc123 := NB672_666.out; have hnb124 := NB666_678.out; have hnc124 := NB678_666.out; obtain ⟨hcz125_0, hcz125_1, hfz125_0, hfz125_1⟩ := cz2_ BK666; (try clear A106)) | (go_at_call 45; (with_reducible refine (dbm_Has.calls kj6 t661 _ _ t662 _ _ l2 true _ ?side1 ?side2 ?side3 ?side4 A110.out).mono ?_); (case side1 => repeat (first | exact (Kd.R_reads' HO664.out).2.2 | (with_reducible refine Kd.C_alloc ?_ _) | (with_reducible refine Kd.C_drewN ?_ _) | (with_reducible refine Kd.C_drew ?_))); (case side2 => exact (Kd.R_reads' HO664.out).2.1); (case side3 => exact sd_ (Kd.C_below HR2.out HB.out)); (case side4 => exact HC2.out); rintro e w126 ⟨rfl, hb⟩; have n_ := a_ (rb_ HO658 hb) (a_ (rb_ HO664 hb) (a_ (rb_ HO670 hb) (a_ (rb_ HO676 hb) (a_ (bb_ BK647 hb) (a_ (bb_ BK648 hb) (a_ (bb_ BK660 hb) (a_ (bb_ BK666 hb) (a_ (bb_ BK672 hb) (a_ (bb_ BK678 hb) (bs_ HB hb)))))))))); clear HO658 HO664 HO670 HO676 BK647 BK648 BK660 BK666 BK672 BK678 HB; obtain ⟨HO658, HO664, HO670, HO676, BK647, BK648, BK660, BK666, BK672, BK678, HB⟩ := n_; (try clear hb); (try clear hb2); (try clear hk); (try clear hi); have hnb127 := NB672_647.out; have hnc127 := NB647_672.out; have hnb128 := NB672_648.out; have hnc128 := NB648_672.out; have hnb129 := NB672_678.out; have hnc129 := NB678_672.out; obtain ⟨hcz130_0, hcz130_1, hfz130_0, hfz130_1⟩ := cz2_ BK672; (try clear A110)) | (go_at_call 45; (with_reducible refine (dbm_Has.calls kj6 t667 _ _ t668 _ _ l2 t684 _ ?side1 ?side2 ?side3 ?side4 A112.out).mono ?_); (case side1 => repeat (first | exact (Kd.R_reads' HO670.out).2.2 | (with_reducible refine Kd.C_alloc ?_ _) | (with_reducible refine Kd.C_drewN ?_ _) | (with_reducible refine Kd.C_drew ?_))); (case side2 => exact (Kd.R_reads' HO670.out).2.1); (case side3 => exact sd_ (Kd.C_below HR2.out HB.out)); (case side4 => exact HC2.out); rintro e w131 ⟨rfl, hb⟩; have n_ := a_ (rb_ HO658 hb) (a_ (rb_ HO664 hb) (a_ (rb_ HO670 hb) (a_ (rb_ HO676 hb) (a_ (bb_ BK647 hb) (a_ (bb_ BK648 hb) (a_ (bb_ BK660 hb) (a_ (bb_ BK666 hb) (a_ (bb_ BK672 hb) (a_ (bb_ BK678 hb) (bs_ HB hb)))))))))); clear HO658 HO664 HO670 HO676 BK647 BK648 BK660 BK666 BK672 BK678 HB; obtain ⟨HO658, HO664, HO670, HO676, BK647, BK648, BK660, BK666, BK672, BK678, HB⟩ := n_; (try clear hb); (try clear hb2); (try clear hk); (try clear hi)))
        go_meet
        case rel => exact ⟨_, (!t684), (by first | rfl | (simp; done) | (simp [*]; done)), H', ⟨by have := HJ6.out; first | omega | exact Nat.le_refl _⟩, ⟨by (with_reducible repeat (first | apply Kd.R_alloc | apply Kd.R_drewN | apply Kd.R_drew)); exact HO658.out⟩, ⟨by (with_reducible repeat (first | apply Kd.R_alloc | apply Kd.R_drewN | apply Kd.R_drew)); exact HO664.out⟩, ⟨by (with_reducible repeat (first | apply Kd.R_alloc | apply Kd.R_drewN | apply Kd.R_drew)); exact HO670.out⟩, ⟨by (with_reducible repeat (first | apply Kd.R_alloc | apply Kd.R_drewN | apply Kd.R_drew)); exact HO676.out⟩, ⟨by (with_reducible repeat (first | refine blk_drewN ?_ _ | refine blk_drew ?_ | refine blk_alloc ?_ _)); exact BK647.out⟩, ⟨by (with_reducible repeat (first | refine blk_drewN ?_ _ | refine blk_drew ?_ | refine blk_alloc ?_ _)); exact BK648.out⟩, ⟨by (with_reducible repeat (first | refine blk_drewN ?_ _ | refine blk_drew ?_ | refine blk_alloc ?_ _)); exact BK660.out⟩, ⟨by (with_reducible repeat (first | refine blk_drewN ?_ _ | refine blk_drew ?_ | refine blk_alloc ?_ _)); exact BK666.out⟩, ⟨by (with_reducible repeat (first | refine blk_drewN ?_ _ | refine blk_drew ?_ | refine blk_alloc ?_ _)); exact BK672.out⟩, ⟨by (with_reducible repeat (first | refine blk_drewN ?_ _ | refine blk_drew ?_ | refine blk_alloc ?_ _)); exact BK678.out⟩, ⟨HB_⟩⟩
      case rest =>
        clear HC61
        try clear c1
        try clear c2
        try clear p2
        try clear c3
        try clear c4
        try clear c5
        try clear c6
        try clear c7
        try clear c8
        try clear c9
        try clear c10
        try clear c11
        try clear c12
        try clear c13
        try clear c15
        try clear c16
        try clear c19
        try clear c19b0
        try clear c19b1
        try clear c20
        try clear c22
        try clear c23
        try clear c24
        try clear c24b0
        try clear c24b1
        try clear c25
        try clear c25b0
        try clear c25b1
        try clear c27
        try clear c29
        try clear c35
        try clear c37
        try clear c38
        try clear c43
        try clear c45
        try clear c48
        try clear c52
        try clear c62
        try clear c67
        try clear c68
        try clear c75
        try clear c76
        try clear c77
        try clear c84
        try clear c85
        try clear c86
        try clear c87
        try clear c93
        try clear c94
        try clear c95
        try clear c96
        try clear c97
        try clear c105
        try clear c107
        try clear c108
        try clear c108b0
        try clear c108b1
        try clear c108b2
        try clear c109
        try clear c111
        try clear c114
        try clear c115
        try clear c116
        try clear c117
        try clear c118
        try clear c121
        try clear c122
        try clear c123
        try clear c124
        try clear c127
        try clear c128
        try clear c129
        try clear c133
        try clear c134
        try clear c135
        try clear c136
        try clear c137
        try clear hcz119_0
        try clear hcz119_1
        try clear hcz125_0
        try clear hcz125_1
        try clear hcz130_0
        try clear hcz130_1
        try clear hcz138_0
        try clear hcz138_1
        try clear hcz13_0
        try clear hcz13_1
        try clear hcz17_0
        try clear hcz17_1
        try clear hcz18_0
        try clear hcz18_1
        try clear hcz21_0
        try clear hcz21_1
        try clear hcz22_0
        try clear hcz22_1
        try clear hcz30_0
        try clear hcz30_1
        try clear hcz31_0
        try clear hcz31_1
        try clear hcz33_0
        try clear hcz33_1
        try clear hcz35_0
        try clear hcz35_1
        try clear hcz38_0
        try clear hcz38_1
        try clear hcz39_0
        try clear hcz39_1
        try clear hcz41_0
        try clear hcz41_1
        try clear hcz44_0
        try clear hcz44_1
        try clear hcz45_0
        try clear hcz45_1
        try clear hcz47_0
        try clear hcz47_1
        try clear hcz49_0
        try clear hcz49_1
        try clear hcz50_0
        try clear hcz50_1
        try clear hcz63_0
        try clear hcz63_1
        try clear hcz64_0
        try clear hcz64_1
        try clear hcz69_0
        try clear hcz69_1
        try clear hcz71_0
        try clear hcz71_1
        try clear hcz72_0
        try clear hcz72_1
        try clear hcz78_0
        try clear hcz78_1
        try clear hcz80_0
        try clear hcz80_1
        try clear hcz81_0
        try clear hcz81_1
        try clear hcz88_0
        try clear hcz88_1
        try clear hcz90_0
        try clear hcz90_1
        try clear hcz98_0
        try clear hcz98_1
        try clear hfz119_0
        try clear hfz119_1
        try clear hfz125_0
        try clear hfz125_1
        try clear hfz130_0
        try clear hfz130_1
        try clear hfz138_0
        try clear hfz138_1
        try clear hfz13_0
        try clear hfz13_1
        try clear hfz17_0
        try clear hfz17_1
        try clear hfz18_0
        try clear hfz18_1
        try clear hfz21_0
        try clear hfz21_1
        try clear hfz22_0
        try clear hfz22_1
        try clear hfz30_0
        try clear hfz30_1
        try clear hfz31_0
        try clear hfz31_1
        try clear hfz33_0
        try clear hfz33_1
        try clear hfz35_0
        try clear hfz35_1
        try clear hfz38_0
        try clear hfz38_1
        try clear hfz39_0
        try clear hfz39_1
        try clear hfz41_0
        try clear hfz41_1
        try clear hfz44_0
        try clear hfz44_1
        try clear hfz45_0
        try clear hfz45_1
        try clear hfz47_0
        try clear hfz47_1
        try clear hfz49_0
        try clear hfz49_1
        try clear hfz50_0
        try clear hfz50_1
        try clear hfz63_0
        try clear hfz63_1
        try clear hfz64_0
        try clear hfz64_1
        try clear hfz69_0
        try clear hfz69_1
        try clear hfz71_0
        try clear hfz71_1
        try clear hfz72_0
        try clear hfz72_1
        try clear hfz78_0
        try clear hfz78_1
        try clear hfz80_0
        try clear hfz80_1
        try clear hfz81_0
        try clear hfz81_1
        try clear hfz88_0
        try clear hfz88_1
        try clear hfz90_0
        try clear hfz90_1
        try clear hfz98_0
        try clear hfz98_1
        try clear p2
        obtain ⟨kq, x130_60, rfl, HA, HJ60, HO_661001, HO_667001, HO_673001, HO_679001, BK647, BK648, BK660, BK666, BK672, BK678, HB⟩ := hcut
        cases kq with
        | zero => exact absurd HA.out (by simp [warrantorlaw09_ZoneHas_v1.j1])
        | succ kj60 =>
          have H := HA.out
          clear HA
          simp only [warrantorlaw09_ZoneHas_v1.j1] at H
          by_cases c140 : x130_60 = true
          · subst c140
            replace H := ps1_ H
            exact absurd H (by simp)
          replace c140 := Bool.eq_false_iff.mpr c140
          subst c140
          replace H := ng1_ H
          replace H := bd_ H
          obtain ⟨t685, A141, H⟩ := H
          (try dsimp only at H)
          by_cases c142 : t679 = true
          · subst c142
            replace H := ps1_ H
            exact absurd H (by simp)
          replace c142 := Bool.eq_false_iff.mpr c142
          subst c142
          replace H := ng1_ H
          by_cases c143 : (t685 != false) = true
          · rw [if_pos c143] at H
            exact absurd H (by simp)
          rw [if_neg c143] at H
          have c143b0 : (t685 != false) = false := by simpa using c143
          (try (have c143b1 : decide (t685 = false) = true := by simpa using c143))
          (try (have c143b2 : (t685 == false) = true := by simpa using c143))
          clear c143
          replace H := bd_ H
          obtain ⟨⟨t686, t687, t690⟩, A144, H⟩ := H
          (try dsimp only at H)
          replace H := bd_ H
          obtain ⟨⟨t692, t693, t694⟩, A145, H⟩ := H
          (try dsimp only at H)
          obtain rfl := Option.some.inj H
          have hnb146 := NB678_647.out
          have hnc146 := NB647_678.out
          have hnb147 := NB678_648.out
          have hnc147 := NB648_678.out
          have hnb148 := NB678_660.out
          have hnc148 := NB660_678.out
          have hnb149 := NB678_666.out
          have hnc149 := NB666_678.out
          have hnb150 := NB678_672.out
          have hnc150 := NB672_678.out
          obtain ⟨hcz151_0, hcz151_1, hfz151_0, hfz151_1⟩ := cz2_ BK678
          go_wp2_with (first | ((with_reducible refine gate_callee (f := 45) rfl ?_); refine goesL_ (some 133) rfl rfl Try.func45 (by kernel_rfl) rfl #[.agg #[.int .i64 t673, .slice Ao99 t674.length co99], .slice A2 l2.length c2] rfl MP_ ?_; (with_reducible refine (dbm_Has.calls kj60 t673 _ _ t674 _ _ l2 t685 _ ?side1 ?side2 ?side3 ?side4 A141.out).mono ?_); (case side1 => repeat (first | exact (Kd.R_reads' HO_679001.out).2.2 | (with_reducible refine Kd.C_alloc ?_ _) | (with_reducible refine Kd.C_drewN ?_ _) | (with_reducible refine Kd.C_drew ?_))); (case side2 => exact (Kd.R_reads' HO_679001.out).2.1); (case side3 => exact sd_ (Kd.C_below HR2.out HB.out)); (case side4 => exact HC2.out); rintro e w152 ⟨rfl, hb⟩; refine ⟨_, rfl, ?_⟩; have n_ := a_ (rb_ HO_661001 hb) (a_ (rb_ HO_667001 hb) (a_ (rb_ HO_673001 hb) (a_ (rb_ HO_679001 hb) (a_ (bb_ BK647 hb) (a_ (bb_ BK648 hb) (a_ (bb_ BK660 hb) (a_ (bb_ BK666 hb) (a_ (bb_ BK672 hb) (a_ (bb_ BK678 hb) (bs_ HB hb)))))))))); clear HO_661001 HO_667001 HO_673001 HO_679001 BK647 BK648 BK660 BK666 BK672 BK678 HB; obtain ⟨HO_661001, HO_667001, HO_673001, HO_679001, BK647, BK648, BK660, BK666, BK672, BK678, HB⟩ := n_; (try clear hb); (try clear hb2); (try clear hk); (try clear hi); have hnb153 := NB647_648.out; have hnc153 := NB648_647.out; have hnb154 := NB647_660.out; have hnc154 := NB660_647.out; have hnb155 := NB647_666.out; have hnc155 := NB666_647.out; have hnb156 := NB647_672.out; have hnc156 := NB672_647.out; obtain ⟨hcz157_0, hcz157_1, hfz157_0, hfz157_1⟩ := cz2_ BK647) | ((with_reducible refine gate_callee (f := 24) rfl ?_); refine goesL_ (some 150) rfl rfl Try.func24 (by kernel_rfl) rfl #[.agg #[.int .i64 a0_0, .slice A0_1 l0_1.length c0_1], .int .i64 a3] rfl MP_ ?_; (with_reducible refine (zone_Forget.calls kj60 a0_0 _ _ l0_1 a3 t686 t687 t690 _ ?side1 ?side2 A144.out).mono ?_); (case side1 => exact sd_ (Kd.C_below HR0_1.out HB.out)); (case side2 => exact HC0_1.out); rintro e w158 ⟨v688, rfl, ho0, hb⟩; refine ⟨_, rfl, ?_⟩; have n_ := a_ (Aside0.mk (Kd.R_elder' (rd_ HO_661001.out) (Kd.R_base ho0) hb)) (a_ (Aside0.mk (Kd.R_elder' (rd_ HO_667001.out) (Kd.R_base ho0) hb)) (a_ (Aside0.mk (Kd.R_elder' (rd_ HO_673001.out) (Kd.R_base ho0) hb)) (a_ (Aside0.mk (Kd.R_elder' (rd_ HO_679001.out) (Kd.R_base ho0) hb)) (a_ (Aside0.mk (Kd.R_lower (Kd.R_new' (Kd.R_new' (Kd.R_new' (Kd.R_new' ho0 (Kd.R_lt (rd_ HO_661001.out))) (Kd.R_lt (rd_ HO_667001.out))) (Kd.R_lt (rd_ HO_673001.out))) (Kd.R_lt (rd_ HO_679001.out))) (below_size HB_))) (a_ (bb_ BK647 hb) (a_ (bb_ BK648 hb) (a_ (bb_ BK660 hb) (a_ (bb_ BK666 hb) (a_ (bb_ BK672 hb) (a_ (bb_ BK678 hb) (bs_ HB hb))))))))))); clear HO_661001 HO_667001 HO_673001 HO_679001 BK647 BK648 BK660 BK666 BK672 BK678 HB; obtain ⟨HO_661001, HO_667001, HO_673001, HO_679001, HO689, BK647, BK648, BK660, BK666, BK672, BK678, HB⟩ := n_; (try clear hb); (try clear hb2); (try clear hk); (try clear hi); (try clear ho0)) | ((with_reducible refine gate_dst (N := 23) rfl ?_); (try (refine gate_guard (by rfl) ?_; dsimp only)); refine bx_ (N := 23) (cs := #[.int .i64 0, .slice none 0 0]) (t := 24) ?_; intro gb691 hg w159 hbox hb; have n_ := a_ (rb_ HO_661001 hb) (a_ (rb_ HO_667001 hb) (a_ (rb_ HO_673001 hb) (a_ (rb_ HO_679001 hb) (a_ (rb_ HO689 hb) (a_ (bb_ BK647 hb) (a_ (bb_ BK648 hb) (a_ (bb_ BK660 hb) (a_ (bb_ BK666 hb) (a_ (bb_ BK672 hb) (a_ (bb_ BK678 hb) (a_ (bs_ HB hb) (a_ (Aside0.mk hbox) (a_ (gs_ HB hg) (a_ (gs_ HB hg) (a_ (nl_ BK647 hg) (a_ (ng_ BK647 hg) (a_ (nl_ BK648 hg) (a_ (ng_ BK648 hg) (a_ (nl_ BK660 hg) (a_ (ng_ BK660 hg) (a_ (nl_ BK666 hg) (a_ (ng_ BK666 hg) (a_ (nl_ BK672 hg) (a_ (ng_ BK672 hg) (a_ (nl_ BK678 hg) (ng_ BK678 hg)))))))))))))))))))))))))); clear HO_661001 HO_667001 HO_673001 HO_679001 HO689 BK647 BK648 BK660 BK666 BK672 BK678 HB; obtain ⟨HO_661001, HO_667001, HO_673001, HO_679001, HO689, BK647, BK648, BK660, BK666, BK672, BK678, HB, BK691, GW691, GE691, NB647_691, NB691_647, NB648_691, NB691_648, NB660_691, NB691_660, NB666_691, NB691_666, NB672_691, NB691_672, NB678_691, NB691_678⟩ := n_; clear hb hbox hg; have hnb160 := NB691_647.out; have hnc160 := NB647_691.out; have hnb161 := NB691_648.out; have hnc161 := NB648_691.out; have hnb162 := NB691_660.out; have hnc162 := NB660_691.out; have hnb163 := NB691_666.out; have hnc163 := NB666_691.out; have hnb164 := NB691_672.out; have hnc164 := NB672_691.out; have hnb165 := NB691_678.out; have hnc165 := NB678_691.out; obtain ⟨hcz166_0, hcz166_1, hfz166_0, hfz166_1⟩ := cz2_ BK691; obtain ⟨Ao167, co167, eo167⟩ := Kd.R_slice HO689.out; subst eo167) | ((with_reducible refine gate_callee (f := 26) rfl ?_); refine goesL_ (some 156) rfl rfl Try.func26 (by kernel_rfl) rfl #[.agg #[.int .i64 t686, .slice Ao167 t687.length co167], .int .i64 a3] rfl MP_ ?_; (with_reducible refine (zone_Itv.calls kj60 t686 _ _ t687 a3 t692 t693 t694 _ ?side1 ?side2 A145.out).mono ?_); (case side1 => refine (Kd.R_reads' (e := 3) (base := w.heap.size) (ok := fun k_ => ((((True ∧ some k_ ≠ (.slice Ao70 t656.length co70 : Value).ownBlock) ∧ some k_ ≠ (.slice Ao79 t662.length co79 : Value).ownBlock) ∧ some k_ ≠ (.slice Ao89 t668.length co89 : Value).ownBlock) ∧ some k_ ≠ (.slice Ao99 t674.length co99 : Value).ownBlock)) (n := t687.length) (c := co167) ?_).2.2; exact (rd_ (rf2_ HO689 BK691 (.int .i64 t686) (.slice Ao167 t687.length co167)))); (case side2 => exact (Kd.R_reads' HO689.out).2.1); rintro e w168 ⟨rfl, hb⟩; refine ⟨_, rfl, ?_⟩; have n_ := a_ (Aside0.mk (Kd.R_below (rd_ (rf2_ HO_661001 BK691 (.int .i64 t686) (.slice Ao167 t687.length co167))) hb)) (a_ (Aside0.mk (Kd.R_below (rd_ (rf2_ HO_667001 BK691 (.int .i64 t686) (.slice Ao167 t687.length co167))) hb)) (a_ (Aside0.mk (Kd.R_below (rd_ (rf2_ HO_673001 BK691 (.int .i64 t686) (.slice Ao167 t687.length co167))) hb)) (a_ (Aside0.mk (Kd.R_below (rd_ (rf2_ HO_679001 BK691 (.int .i64 t686) (.slice Ao167 t687.length co167))) hb)) (a_ (Aside0.mk (Kd.R_below (rd_ (rf2_ HO689 BK691 (.int .i64 t686) (.slice Ao167 t687.length co167))) hb)) (a_ (bc_ #[.int .i64 a0_0, .slice A0_1 l0_1.length c0_1] 24 BK647 hb) (a_ (bc_ #[.int .i64 a1_0, .slice A1_1 l1_1.length c1_1] 24 BK648 hb) (a_ (bc_ #[.int .i64 t655, .slice Ao70 t656.length co70] 24 BK660 hb) (a_ (bc_ #[.int .i64 t661, .slice Ao79 t662.length co79] 24 BK666 hb) (a_ (bc_ #[.int .i64 t667, .slice Ao89 t668.length co89] 24 BK672 hb) (a_ (bc_ #[.int .i64 t673, .slice Ao99 t674.length co99] 24 BK678 hb) (a_ (bc_ #[.int .i64 t686, .slice Ao167 t687.length co167] 24 BK691 hb) (bs_ HB hb)))))))))))); clear HO_661001 HO_667001 HO_673001 HO_679001 HO689 BK647 BK648 BK660 BK666 BK672 BK678 BK691 HB; obtain ⟨HO_661001, HO_667001, HO_673001, HO_679001, HO689, BK647, BK648, BK660, BK666, BK672, BK678, BK691, HB⟩ := n_; (try clear hb); (try clear hb2); (try clear hk); (try clear hi)) | ((with_reducible refine gate_dst (N := 25) rfl ?_); (try (refine gate_guard (by rfl) ?_; dsimp only)); refine bx_ (N := 25) (cs := #[.int .i64 0, .int .i64 0]) (t := 39) ?_; intro gb695 hg w169 hbox hb; have n_ := a_ (rb_ HO_661001 hb) (a_ (rb_ HO_667001 hb) (a_ (rb_ HO_673001 hb) (a_ (rb_ HO_679001 hb) (a_ (rb_ HO689 hb) (a_ (bb_ BK647 hb) (a_ (bb_ BK648 hb) (a_ (bb_ BK660 hb) (a_ (bb_ BK666 hb) (a_ (bb_ BK672 hb) (a_ (bb_ BK678 hb) (a_ (bb_ BK691 hb) (a_ (bs_ HB hb) (a_ (Aside0.mk hbox) (a_ (gs_ HB hg) (a_ (gs_ HB hg) (a_ (nl_ BK647 hg) (a_ (ng_ BK647 hg) (a_ (nl_ BK648 hg) (a_ (ng_ BK648 hg) (a_ (nl_ BK660 hg) (a_ (ng_ BK660 hg) (a_ (nl_ BK666 hg) (a_ (ng_ BK666 hg) (a_ (nl_ BK672 hg) (a_ (ng_ BK672 hg) (a_ (nl_ BK678 hg) (a_ (ng_ BK678 hg) (a_ (nl_ BK691 hg) (ng_ BK691 hg))))))))))))))))))))))))))))); clear HO_661001 HO_667001 HO_673001 HO_679001 HO689 BK647 BK648 BK660 BK666 BK672 BK678 BK691 HB; obtain ⟨HO_661001, HO_667001, HO_673001, HO_679001, HO689, BK647, BK648, BK660, BK666, BK672, BK678, BK691, HB, BK695, GW695, GE695, NB647_695, NB695_647, NB648_695, NB695_648, NB660_695, NB695_660, NB666_695, NB695_666, NB672_695, NB695_672, NB678_695, NB695_678, NB691_695, NB695_691⟩ := n_; clear hb hbox hg; have hnb170 := NB695_647.out; have hnc170 := NB647_695.out; have hnb171 := NB695_648.out; have hnc171 := NB648_695.out; have hnb172 := NB695_660.out; have hnc172 := NB660_695.out; have hnb173 := NB695_666.out; have hnc173 := NB666_695.out; have hnb174 := NB695_672.out; have hnc174 := NB672_695.out; have hnb175 := NB695_678.out; have hnc175 := NB678_695.out; have hnb176 := NB695_691.out; have hnc176 := NB691_695.out; obtain ⟨hcz177_0, hcz177_1, hfz177_0, hfz177_1⟩ := cz2_ BK695))
          go_ret
          exact ⟨by first | rfl | (simp [errW_none, errW_some] <;> rfl) | (simp [*, errW_none, errW_some] <;> rfl), HB_⟩

end Go.Proofs.Ytgeemdpflcefkaa.Z
