-- WRITTEN BY this session's program wip/ext.py, in print.py's manner
import Derived.Test.YtgeemdpflcefkaaZx0
import Derived.Test.YtgeemdpflcefkaaZx3
import Derived.Test.YtgeemdpflcefkaaZx16
import Derived.Test.YtgeemdpflcefkaaZx17
import Derived.Test.YtgeemdpflcefkaaZx29
import Derived.Test.YtgeemdpflcefkaaZx33
import Derived.Test.YtgeemdpflcefkaaZx35
import Derived.Test.YtgeemdpflcefkaaZx39
import Derived.Test.YtgeemdpflcefkaaZx41
import Derived.Test.YtgeemdpflcefkaaZx42
namespace Go.Proofs.Ytgeemdpflcefkaa.Z
open Go.RowKit Go.Proofs.YtgeemdpflcefkaaW.PrintWords Go.Proofs.YtgeemdpflcefkaaW.PrintLast Go.Proofs.YtgeemdpflcefkaaW.PrintMore
attribute [local go_sem] max2_int min2_int max_two min_two max_three min_three max_four min_four   -- for this text's walks alone
set_option linter.unusedVariables false
set_option linter.unusedSimpArgs false

/-! ### warrantorlaw09_ZoneSteps: function 7 -/
mutual
def warrantorlaw09_ZoneSteps.j0 : Nat → List Int → Int → Int → Int → Bool → Int → List Int → Option (Bool)
  | 0, _, _, _, _, _, _, _ => none
  | k + 1, x1, x2, x3, x4, x56, x533000, x533001 => if x56 = true then ((warrantorlaw09_lives.f k).bind fun t538 => (some t538)) else ((zone_Forget.f k x533000 x533001 x2).bind fun bt539 => ((zone_Let.f k x533000 x533001 x2 x3 x4).bind fun bt545 => ((warrantorlaw09_lives.f k).bind fun t551 => (if t551 = true then (if x2 = x3 then ((warrantorlaw09_value.f x1 x2).bind fun t552 => ((dbm_Has.f k bt545.1 bt545.2.1 x1).bind fun t553 => ((warrantorref06_Is.f (wrap64 (t552 - x4))).bind fun t554 => (if t554 = true then ((warrantorlaw09_value.f x1 x2).bind fun t555 => ((warrantorref06_Is.f t555).bind fun t556 => (if t556 = true then ((warrantorlaw09_with.f x1 x2 (wrap64 (t552 - x4))).bind fun t557 => ((dbm_Has.f k x533000 x533001 t557).bind fun t560 => (if (t553 != t560) = true then (none) else (warrantorlaw09_ZoneSteps.j1 k x1 x2 x3 x533000 x533001 bt539.1 bt539.2.1 bt545.1 bt545.2.1)))) else (if (t553 != false) = true then (none) else (warrantorlaw09_ZoneSteps.j1 k x1 x2 x3 x533000 x533001 bt539.1 bt539.2.1 bt545.1 bt545.2.1))))) else (if (t553 != false) = true then (none) else (warrantorlaw09_ZoneSteps.j1 k x1 x2 x3 x533000 x533001 bt539.1 bt539.2.1 bt545.1 bt545.2.1)))))) else ((dbm_Has.f k bt545.1 bt545.2.1 x1).bind fun t561 => (if t561 = true then ((warrantorlaw09_value.f x1 x2).bind fun t562 => ((warrantorlaw09_value.f x1 x3).bind fun t563 => (if t562 = (wrap64 (t563 + x4)) then (warrantorlaw09_ZoneSteps.j1 k x1 x2 x3 x533000 x533001 bt539.1 bt539.2.1 bt545.1 bt545.2.1) else (none)))) else (warrantorlaw09_ZoneSteps.j1 k x1 x2 x3 x533000 x533001 bt539.1 bt539.2.1 bt545.1 bt545.2.1)))) else (none)))))
def warrantorlaw09_ZoneSteps.j1 : Nat → List Int → Int → Int → Int → List Int → Int → List Int → Int → List Int → Option (Bool)
  | 0, _, _, _, _, _, _, _, _, _ => none
  | k + 1, x1, x2, x3, x533000, x533001, x545000, x545001, x551000, x551001 => (dbm_Has.f k x545000 x545001 x1).bind fun t564 => (if t564 = true then (warrantorlaw09_ZoneSteps.j2 k x1 x2 false x533000 x533001) else (if x2 = x3 then (warrantorlaw09_ZoneSteps.j2 k x1 x2 true x533000 x533001) else ((dbm_Has.f k x551000 x551001 x1).bind fun t565 => (warrantorlaw09_ZoneSteps.j2 k x1 x2 (!t565) x533000 x533001))))
def warrantorlaw09_ZoneSteps.j2 : Nat → List Int → Int → Bool → Int → List Int → Option (Bool)
  | 0, _, _, _, _, _ => none
  | k + 1, x1, x2, x130, x533000, x533001 => if x130 = true then (some true) else (warrantorlaw09_ZoneSteps.l0 k x1 x2 (-1099511627776) 0 x533000 x533001)
def warrantorlaw09_ZoneSteps.l0 : Nat → List Int → Int → Int → Int → Int → List Int → Option (Bool)
  | 0, _, _, _, _, _, _ => none
  | k + 1, x1, x2, x16, x17, x533000, x533001 => if x17 ≤ x533000 then ((dbm_Bound.f k x533000 x533001 x17 x2).bind fun bt570 => (if x17 = x2 then (warrantorlaw09_ZoneSteps.l0 k x1 x2 x16 (wrap64 (x17 + 1)) x533000 x533001) else ((warrantorlaw09_value.f x1 x17).bind fun t572 => (if (wrap64 (t572 - bt570.1)) > x16 then ((warrantorlaw09_value.f x1 x17).bind fun t573 => (warrantorlaw09_ZoneSteps.l0 k x1 x2 (wrap64 (t573 - bt570.1)) (wrap64 (x17 + 1)) x533000 x533001)) else (warrantorlaw09_ZoneSteps.l0 k x1 x2 x16 (wrap64 (x17 + 1)) x533000 x533001))))) else ((warrantorlaw09_with.f x1 x2 x16).bind fun t566 => ((dbm_Has.f k x533000 x533001 t566).bind fun t569 => (some t569)))
end
def warrantorlaw09_ZoneSteps.f (k : Nat) (a0_0 : Int) (l0_1 : List Int) (l1 : List Int) (a2 : Int) (a3 : Int) (a4 : Int) : Option (Bool) := (warrantorref08_Large.f l0_1).bind fun t533 => (if t533 = true then (warrantorlaw09_ZoneSteps.j0 k l1 a2 a3 a4 true a0_0 l0_1) else (if (l1.length : Int) > 8 then (warrantorlaw09_ZoneSteps.j0 k l1 a2 a3 a4 true a0_0 l0_1) else ((warrantorref08_Check.f k a0_0 l0_1).bind fun t534 => (if t534 = true then (if (l1.length : Int) = a0_0 then ((warrantorref09_Var.f a0_0 l0_1 a2).bind fun t535 => (if t535 = true then ((warrantorref09_Or0.f a0_0 l0_1 a3).bind fun t536 => (if t536 = true then ((warrantorref06_Is.f a4).bind fun t537 => (warrantorlaw09_ZoneSteps.j0 k l1 a2 a3 a4 (!t537) a0_0 l0_1)) else (warrantorlaw09_ZoneSteps.j0 k l1 a2 a3 a4 true a0_0 l0_1))) else (warrantorlaw09_ZoneSteps.j0 k l1 a2 a3 a4 true a0_0 l0_1))) else (warrantorlaw09_ZoneSteps.j0 k l1 a2 a3 a4 true a0_0 l0_1)) else (warrantorlaw09_ZoneSteps.j0 k l1 a2 a3 a4 true a0_0 l0_1)))))
theorem warrantorlaw09_ZoneSteps.mono_l : ∀ k, (∀ y0 y1 y2 y3 y4 y5 y6, LeO (warrantorlaw09_ZoneSteps.j0 k y0 y1 y2 y3 y4 y5 y6) (warrantorlaw09_ZoneSteps.j0 (k + 1) y0 y1 y2 y3 y4 y5 y6)) ∧ (∀ y0 y1 y2 y3 y4 y5 y6 y7 y8, LeO (warrantorlaw09_ZoneSteps.j1 k y0 y1 y2 y3 y4 y5 y6 y7 y8) (warrantorlaw09_ZoneSteps.j1 (k + 1) y0 y1 y2 y3 y4 y5 y6 y7 y8)) ∧ (∀ y0 y1 y2 y3 y4, LeO (warrantorlaw09_ZoneSteps.j2 k y0 y1 y2 y3 y4) (warrantorlaw09_ZoneSteps.j2 (k + 1) y0 y1 y2 y3 y4)) ∧ (∀ y0 y1 y2 y3 y4 y5, LeO (warrantorlaw09_ZoneSteps.l0 k y0 y1 y2 y3 y4 y5) (warrantorlaw09_ZoneSteps.l0 (k + 1) y0 y1 y2 y3 y4 y5))
  | 0 => ⟨fun _ _ _ _ _ _ _ r h => by simp [warrantorlaw09_ZoneSteps.j0] at h, fun _ _ _ _ _ _ _ _ _ r h => by simp [warrantorlaw09_ZoneSteps.j1] at h, fun _ _ _ _ _ r h => by simp [warrantorlaw09_ZoneSteps.j2] at h, fun _ _ _ _ _ _ r h => by simp [warrantorlaw09_ZoneSteps.l0] at h⟩
  | k + 1 => by
    obtain ⟨ih0, ih1, ih2, ih3⟩ := warrantorlaw09_ZoneSteps.mono_l k
    refine ⟨?_, ?_, ?_, ?_⟩
    · intro y0 y1 y2 y3 y4 y5 y6
      unfold warrantorlaw09_ZoneSteps.j0
      repeat' first
      | (with_reducible exact ih0 _ _ _ _ _ _ _)
      | (with_reducible exact ih1 _ _ _ _ _ _ _ _ _)
      | (with_reducible exact ih2 _ _ _ _ _)
      | (with_reducible exact ih3 _ _ _ _ _ _)
      | (with_reducible exact dbm_Bound.mono _ _ _ _ _)
      | (with_reducible exact dbm_Has.mono _ _ _ _)
      | (with_reducible exact warrantorlaw09_lives.mono _)
      | (with_reducible exact warrantorref08_Check.mono _ _ _)
      | (with_reducible exact zone_Forget.mono _ _ _ _)
      | (with_reducible exact zone_Let.mono _ _ _ _ _ _)
      | (with_reducible exact LeO.refl _)
      | (with_reducible exact LeO.none _)
      | (with_reducible refine LeO.ite ?_ ?_)
      | (with_reducible refine LeO.bind ?_ (fun _ => ?_))
      | exact ih0 _ _ _ _ _ _ _
      | exact ih1 _ _ _ _ _ _ _ _ _
      | exact ih2 _ _ _ _ _
      | exact ih3 _ _ _ _ _ _
      | exact dbm_Bound.mono _ _ _ _ _
      | exact dbm_Has.mono _ _ _ _
      | exact warrantorlaw09_lives.mono _
      | exact warrantorref08_Check.mono _ _ _
      | exact zone_Forget.mono _ _ _ _
      | exact zone_Let.mono _ _ _ _ _ _
      | exact LeO.none _
      | refine LeO.ite ?_ ?_
      | refine LeO.bind ?_ (fun _ => ?_)
    · intro y0 y1 y2 y3 y4 y5 y6 y7 y8
      unfold warrantorlaw09_ZoneSteps.j1
      repeat' first
      | (with_reducible exact ih0 _ _ _ _ _ _ _)
      | (with_reducible exact ih1 _ _ _ _ _ _ _ _ _)
      | (with_reducible exact ih2 _ _ _ _ _)
      | (with_reducible exact ih3 _ _ _ _ _ _)
      | (with_reducible exact dbm_Bound.mono _ _ _ _ _)
      | (with_reducible exact dbm_Has.mono _ _ _ _)
      | (with_reducible exact warrantorlaw09_lives.mono _)
      | (with_reducible exact warrantorref08_Check.mono _ _ _)
      | (with_reducible exact zone_Forget.mono _ _ _ _)
      | (with_reducible exact zone_Let.mono _ _ _ _ _ _)
      | (with_reducible exact LeO.refl _)
      | (with_reducible exact LeO.none _)
      | (with_reducible refine LeO.ite ?_ ?_)
      | (with_reducible refine LeO.bind ?_ (fun _ => ?_))
      | exact ih0 _ _ _ _ _ _ _
      | exact ih1 _ _ _ _ _ _ _ _ _
      | exact ih2 _ _ _ _ _
      | exact ih3 _ _ _ _ _ _
      | exact dbm_Bound.mono _ _ _ _ _
      | exact dbm_Has.mono _ _ _ _
      | exact warrantorlaw09_lives.mono _
      | exact warrantorref08_Check.mono _ _ _
      | exact zone_Forget.mono _ _ _ _
      | exact zone_Let.mono _ _ _ _ _ _
      | exact LeO.none _
      | refine LeO.ite ?_ ?_
      | refine LeO.bind ?_ (fun _ => ?_)
    · intro y0 y1 y2 y3 y4
      unfold warrantorlaw09_ZoneSteps.j2
      repeat' first
      | (with_reducible exact ih0 _ _ _ _ _ _ _)
      | (with_reducible exact ih1 _ _ _ _ _ _ _ _ _)
      | (with_reducible exact ih2 _ _ _ _ _)
      | (with_reducible exact ih3 _ _ _ _ _ _)
      | (with_reducible exact dbm_Bound.mono _ _ _ _ _)
      | (with_reducible exact dbm_Has.mono _ _ _ _)
      | (with_reducible exact warrantorlaw09_lives.mono _)
      | (with_reducible exact warrantorref08_Check.mono _ _ _)
      | (with_reducible exact zone_Forget.mono _ _ _ _)
      | (with_reducible exact zone_Let.mono _ _ _ _ _ _)
      | (with_reducible exact LeO.refl _)
      | (with_reducible exact LeO.none _)
      | (with_reducible refine LeO.ite ?_ ?_)
      | (with_reducible refine LeO.bind ?_ (fun _ => ?_))
      | exact ih0 _ _ _ _ _ _ _
      | exact ih1 _ _ _ _ _ _ _ _ _
      | exact ih2 _ _ _ _ _
      | exact ih3 _ _ _ _ _ _
      | exact dbm_Bound.mono _ _ _ _ _
      | exact dbm_Has.mono _ _ _ _
      | exact warrantorlaw09_lives.mono _
      | exact warrantorref08_Check.mono _ _ _
      | exact zone_Forget.mono _ _ _ _
      | exact zone_Let.mono _ _ _ _ _ _
      | exact LeO.none _
      | refine LeO.ite ?_ ?_
      | refine LeO.bind ?_ (fun _ => ?_)
    · intro y0 y1 y2 y3 y4 y5
      unfold warrantorlaw09_ZoneSteps.l0
      repeat' first
      | (with_reducible exact ih0 _ _ _ _ _ _ _)
      | (with_reducible exact ih1 _ _ _ _ _ _ _ _ _)
      | (with_reducible exact ih2 _ _ _ _ _)
      | (with_reducible exact ih3 _ _ _ _ _ _)
      | (with_reducible exact dbm_Bound.mono _ _ _ _ _)
      | (with_reducible exact dbm_Has.mono _ _ _ _)
      | (with_reducible exact warrantorlaw09_lives.mono _)
      | (with_reducible exact warrantorref08_Check.mono _ _ _)
      | (with_reducible exact zone_Forget.mono _ _ _ _)
      | (with_reducible exact zone_Let.mono _ _ _ _ _ _)
      | (with_reducible exact LeO.refl _)
      | (with_reducible exact LeO.none _)
      | (with_reducible refine LeO.ite ?_ ?_)
      | (with_reducible refine LeO.bind ?_ (fun _ => ?_))
      | exact ih0 _ _ _ _ _ _ _
      | exact ih1 _ _ _ _ _ _ _ _ _
      | exact ih2 _ _ _ _ _
      | exact ih3 _ _ _ _ _ _
      | exact dbm_Bound.mono _ _ _ _ _
      | exact dbm_Has.mono _ _ _ _
      | exact warrantorlaw09_lives.mono _
      | exact warrantorref08_Check.mono _ _ _
      | exact zone_Forget.mono _ _ _ _
      | exact zone_Let.mono _ _ _ _ _ _
      | exact LeO.none _
      | refine LeO.ite ?_ ?_
      | refine LeO.bind ?_ (fun _ => ?_)
theorem warrantorlaw09_ZoneSteps.mono : ∀ a0 a1 a2 a3 a4 a5 k, LeO (warrantorlaw09_ZoneSteps.f k a0 a1 a2 a3 a4 a5) (warrantorlaw09_ZoneSteps.f (k + 1) a0 a1 a2 a3 a4 a5) := by
  intro a0 a1 a2 a3 a4 a5 k
  obtain ⟨ih0, ih1, ih2, ih3⟩ := warrantorlaw09_ZoneSteps.mono_l k
  unfold warrantorlaw09_ZoneSteps.f
  repeat' first
      | (with_reducible exact ih0 _ _ _ _ _ _ _)
      | (with_reducible exact ih1 _ _ _ _ _ _ _ _ _)
      | (with_reducible exact ih2 _ _ _ _ _)
      | (with_reducible exact ih3 _ _ _ _ _ _)
      | (with_reducible exact dbm_Bound.mono _ _ _ _ _)
      | (with_reducible exact dbm_Has.mono _ _ _ _)
      | (with_reducible exact warrantorlaw09_lives.mono _)
      | (with_reducible exact warrantorref08_Check.mono _ _ _)
      | (with_reducible exact zone_Forget.mono _ _ _ _)
      | (with_reducible exact zone_Let.mono _ _ _ _ _ _)
      | (with_reducible exact LeO.refl _)
      | (with_reducible exact LeO.none _)
      | (with_reducible refine LeO.ite ?_ ?_)
      | (with_reducible refine LeO.bind ?_ (fun _ => ?_))
      | exact ih0 _ _ _ _ _ _ _
      | exact ih1 _ _ _ _ _ _ _ _ _
      | exact ih2 _ _ _ _ _
      | exact ih3 _ _ _ _ _ _
      | exact dbm_Bound.mono _ _ _ _ _
      | exact dbm_Has.mono _ _ _ _
      | exact warrantorlaw09_lives.mono _
      | exact warrantorref08_Check.mono _ _ _
      | exact zone_Forget.mono _ _ _ _
      | exact zone_Let.mono _ _ _ _ _ _
      | exact LeO.none _
      | refine LeO.ite ?_ ?_
      | refine LeO.bind ?_ (fun _ => ?_)
def warrantorlaw09_ZoneSteps.T9 : Bool × List (List Nat × List Nat) := (true, [([], []), ([], []), ([0, 1], [0, 1]), ([], []), ([3, 2], [3]), ([4, 4], [4]), ([5], [5]), ([5], [5]), ([6, 7, 5, 5], [5, 6, 7]), ([8, 8, 5], [5, 8]), ([5, 9], [5, 9]), ([10, 9], [10]), ([11], [11]), ([11], [11]), ([11], [11]), ([11], [11]), ([13, 14, 15, 11, 11], [11, 13, 14, 15]), ([12, 16, 16, 11], [11, 12, 16]), ([11, 17], [11, 17]), ([2, 18], [2, 18])])
def warrantorlaw09_ZoneSteps.B9 : List Nat := [0, 0, 3, 0, 15, 31, 63, 63, 255, 511, 1023, 2047, 4095, 4095, 4095, 4095, 61439, 131071, 262143, 524287]
theorem warrantorlaw09_ZoneSteps.tab9 : rtab .any (opsOf Try.f7 9) = warrantorlaw09_ZoneSteps.T9 := by kernel_rfl
theorem warrantorlaw09_ZoneSteps.bits9 : waitsOk warrantorlaw09_ZoneSteps.T9.2 warrantorlaw09_ZoneSteps.B9 = true := by kernel_rfl
set_option maxHeartbeats 8000000 in
set_option maxRecDepth 100000 in
theorem warrantorlaw09_ZoneSteps.calls (k : Nat) (a0_0 : Int) (A0_1 : Option Addr) (c0_1 : Nat) (l0_1 : List Int) (A1 : Option Addr) (c1 : Nat) (l1 : List Int) (a2 : Int) (a3 : Int) (a4 : Int) (r : Bool) (w : World) (hr0_1 : Kd.C (Kd.int .i64) w A0_1 l0_1.length l0_1) (hc0_1 : l0_1.length ≤ c0_1) (hr1 : Kd.C (Kd.int .i64) w A1 l1.length l1) (hc1 : l1.length ≤ c1) (h : warrantorlaw09_ZoneSteps.f k a0_0 l0_1 l1 a2 a3 a4 = some r) :
    Calls Try.prog 7 #[.agg #[.int .i64 a0_0, .slice A0_1 l0_1.length c0_1], .slice A1 l1.length c1, .int .i64 a2, .int .i64 a3, .int .i64 a4] w fun e w' => e = .returned (.bool r) ∧ Below w.heap.size w w' := by
  have hu24 := Try.underlying24
  have HR0_1 := Aside0.mk hr0_1
  have HC0_1 := Aside0.mk hc0_1
  clear hr0_1 hc0_1
  have HR1 := Aside0.mk hr1
  have HC1 := Aside0.mk hc1
  clear hr1 hc1
  have HB := Aside0.mk (Below.refl w.heap.size w)
  have H : ((warrantorref08_Large.f l0_1).bind fun t533 => (if t533 = true then (warrantorlaw09_ZoneSteps.j0 k l1 a2 a3 a4 true a0_0 l0_1) else (if (l1.length : Int) > 8 then (warrantorlaw09_ZoneSteps.j0 k l1 a2 a3 a4 true a0_0 l0_1) else ((warrantorref08_Check.f k a0_0 l0_1).bind fun t534 => (if t534 = true then (if (l1.length : Int) = a0_0 then ((warrantorref09_Var.f a0_0 l0_1 a2).bind fun t535 => (if t535 = true then ((warrantorref09_Or0.f a0_0 l0_1 a3).bind fun t536 => (if t536 = true then ((warrantorref06_Is.f a4).bind fun t537 => (warrantorlaw09_ZoneSteps.j0 k l1 a2 a3 a4 (!t537) a0_0 l0_1)) else (warrantorlaw09_ZoneSteps.j0 k l1 a2 a3 a4 true a0_0 l0_1))) else (warrantorlaw09_ZoneSteps.j0 k l1 a2 a3 a4 true a0_0 l0_1))) else (warrantorlaw09_ZoneSteps.j0 k l1 a2 a3 a4 true a0_0 l0_1)) else (warrantorlaw09_ZoneSteps.j0 k l1 a2 a3 a4 true a0_0 l0_1)))))) = some r := h
  clear h
  have HC6 := Aside0.mk H
  clear H
  go_enter Try.func7, Try.ntmps7
  go_upto_region 1 with (first | ((with_reducible refine gate_dst (N := 5) rfl ?_); (try (refine gate_guard (by rfl) ?_; dsimp only)); refine bx_ (N := 5) (cs := #[.int .i64 a0_0, .slice A0_1 l0_1.length c0_1]) (t := 24) ?_; intro gb532 hg w7 hbox hb; have n_ := a_ (bs_ HB hb) (a_ (Aside0.mk hbox) (a_ (gs_ HB hg) (gs_ HB hg))); clear HB; obtain ⟨HB, BK532, GW532, GE532⟩ := n_; clear hb hbox hg))
  (try simp only [Act.put, List.setIfInBounds_toArray, List.set_cons_zero, List.set_cons_succ])
  go_cut [56] (fun v56 wc => ∃ (kq : Nat) (x56_5 : Bool), v56 = .bool x56_5 ∧ Aside0 (warrantorlaw09_ZoneSteps.j0 kq l1 a2 a3 a4 x56_5 a0_0 l0_1 = some r) ∧ Aside0 (kq ≤ k) ∧ Aside0 (wc.heap[gb532]? = some (.cells #[.int .i64 a0_0, (.slice A0_1 l0_1.length c0_1)] 24 (0, 0))) ∧ Aside0 (Below w.heap.size w wc))
  case first =>
    have H := HC6.out
    clear HC6
    replace H := bd_ H
    obtain ⟨t533, A8, H⟩ := H
    (try dsimp only at H)
    by_cases c9 : t533 = true
    · subst c9
      replace H := ps1_ H
      have H' := Aside0.mk H
      clear H
      obtain ⟨hcz10_0, hcz10_1, hfz10_0, hfz10_1⟩ := cz2_ BK532
      go_wp2_with (first | ((with_reducible refine gate_callee (f := 12) rfl ?_); refine goesL_ (some 22) rfl rfl Try.func12 (by kernel_rfl) rfl #[.slice A0_1 l0_1.length c0_1] rfl MP_ ?_; (with_reducible refine (warrantorref08_Large.calls _ _ l0_1 true _ ?side1 ?side2 A8.out).mono ?_); (case side1 => exact sd_ (Kd.C_below HR0_1.out HB.out)); (case side2 => exact HC0_1.out); rintro e w' ⟨rfl, ⟨nd, rfl⟩⟩; refine ⟨_, rfl, ?_⟩))
      go_meet
      case rel => exact ⟨_, (true), (by first | rfl | (simp; done) | (simp [*]; done)), H', ⟨by first | omega | exact Nat.le_refl _⟩, ⟨by (with_reducible repeat (first | refine blk_drewN ?_ _ | refine blk_drew ?_ | refine blk_alloc ?_ _)); exact BK532.out⟩, ⟨HB_⟩⟩
    replace c9 := Bool.eq_false_iff.mpr c9
    subst c9
    replace H := ng1_ H
    by_cases c11 : (l1.length : Int) > 8
    · rw [if_pos c11] at H
      have c11b0 : decide (8 < (l1.length : Int)) = true := decide_eq_true c11
      have c11b1 : decide (8 < l1.length) = true := decide_eq_true (by omega)
      clear c11
      (first | rw [c11b0] | (simp only [i64_w, i32_w]; rw [c11b0]) | skip)
      have H' := Aside0.mk H
      clear H
      obtain ⟨hcz12_0, hcz12_1, hfz12_0, hfz12_1⟩ := cz2_ BK532
      go_wp2_with (first | ((with_reducible refine gate_callee (f := 12) rfl ?_); refine goesL_ (some 22) rfl rfl Try.func12 (by kernel_rfl) rfl #[.slice A0_1 l0_1.length c0_1] rfl MP_ ?_; (with_reducible refine (warrantorref08_Large.calls _ _ l0_1 false _ ?side1 ?side2 A8.out).mono ?_); (case side1 => exact sd_ (Kd.C_below HR0_1.out HB.out)); (case side2 => exact HC0_1.out); rintro e w' ⟨rfl, ⟨nd, rfl⟩⟩; refine ⟨_, rfl, ?_⟩))
      go_meet
      case rel => exact ⟨_, (true), (by first | rfl | (simp; done) | (simp [*]; done)), H', ⟨by first | omega | exact Nat.le_refl _⟩, ⟨by (with_reducible repeat (first | refine blk_drewN ?_ _ | refine blk_drew ?_ | refine blk_alloc ?_ _)); exact BK532.out⟩, ⟨HB_⟩⟩
    rw [if_neg c11] at H
    have c11b0 : decide (8 < (l1.length : Int)) = false := decide_eq_false c11
    have c11b1 : decide (8 < l1.length) = false := decide_eq_false (by omega)
    clear c11
    (first | rw [c11b0] | (simp only [i64_w, i32_w]; rw [c11b0]) | skip)
    replace H := bd_ H
    obtain ⟨t534, A13, H⟩ := H
    (try dsimp only at H)
    by_cases c14 : t534 = true
    rotate_left
    · replace c14 := Bool.eq_false_iff.mpr c14
      subst c14
      replace H := ng1_ H
      have H' := Aside0.mk H
      clear H
      obtain ⟨hcz40_0, hcz40_1, hfz40_0, hfz40_1⟩ := cz2_ BK532
      go_wp2_with (first | ((with_reducible refine gate_callee (f := 12) rfl ?_); refine goesL_ (some 22) rfl rfl Try.func12 (by kernel_rfl) rfl #[.slice A0_1 l0_1.length c0_1] rfl MP_ ?_; (with_reducible refine (warrantorref08_Large.calls _ _ l0_1 false _ ?side1 ?side2 A8.out).mono ?_); (case side1 => exact sd_ (Kd.C_below HR0_1.out HB.out)); (case side2 => exact HC0_1.out); rintro e w' ⟨rfl, ⟨nd, rfl⟩⟩; refine ⟨_, rfl, ?_⟩) | (go_at_call 27; (with_reducible refine (warrantorref08_Check.calls k a0_0 _ _ l0_1 false _ ?side1 ?side2 A13.out).mono ?_); (case side1 => repeat (first | exact (Kd.C_below HR0_1.out HB_) | (with_reducible refine Kd.C_alloc ?_ _) | (with_reducible refine Kd.C_drewN ?_ _) | (with_reducible refine Kd.C_drew ?_))); (case side2 => exact HC0_1.out); rintro e w41 ⟨rfl, hb⟩; have n_ := a_ (bb_ BK532 hb) (bs_ HB hb); clear BK532 HB; obtain ⟨BK532, HB⟩ := n_; (try clear hb); (try clear hb2); (try clear hk); (try clear hi)))
      go_meet
      case rel => exact ⟨_, (true), (by first | rfl | (simp; done) | (simp [*]; done)), H', ⟨by first | omega | exact Nat.le_refl _⟩, ⟨by (with_reducible repeat (first | refine blk_drewN ?_ _ | refine blk_drew ?_ | refine blk_alloc ?_ _)); exact BK532.out⟩, ⟨HB_⟩⟩
    subst c14
    replace H := ps1_ H
    by_cases c15 : (l1.length : Int) = a0_0
    rotate_left
    · rw [if_neg c15] at H
      have c15b0 : ((l1.length : Int) == a0_0) = false := beq_eq_false_iff_ne.mpr c15
      have c15b1 : ((l1.length : Int) != a0_0) = true := bne_iff_ne.mpr c15
      have H' := Aside0.mk H
      clear H
      obtain ⟨hcz37_0, hcz37_1, hfz37_0, hfz37_1⟩ := cz2_ BK532
      go_wp2_with (first | ((with_reducible refine gate_callee (f := 12) rfl ?_); refine goesL_ (some 22) rfl rfl Try.func12 (by kernel_rfl) rfl #[.slice A0_1 l0_1.length c0_1] rfl MP_ ?_; (with_reducible refine (warrantorref08_Large.calls _ _ l0_1 false _ ?side1 ?side2 A8.out).mono ?_); (case side1 => exact sd_ (Kd.C_below HR0_1.out HB.out)); (case side2 => exact HC0_1.out); rintro e w' ⟨rfl, ⟨nd, rfl⟩⟩; refine ⟨_, rfl, ?_⟩) | (go_at_call 27; (with_reducible refine (warrantorref08_Check.calls k a0_0 _ _ l0_1 true _ ?side1 ?side2 A13.out).mono ?_); (case side1 => repeat (first | exact (Kd.C_below HR0_1.out HB_) | (with_reducible refine Kd.C_alloc ?_ _) | (with_reducible refine Kd.C_drewN ?_ _) | (with_reducible refine Kd.C_drew ?_))); (case side2 => exact HC0_1.out); rintro e w38 ⟨rfl, hb⟩; have n_ := a_ (bb_ BK532 hb) (bs_ HB hb); clear BK532 HB; obtain ⟨BK532, HB⟩ := n_; (try clear hb); (try clear hb2); (try clear hk); (try clear hi); obtain ⟨hcz39_0, hcz39_1, hfz39_0, hfz39_1⟩ := cz2_ BK532))
      go_meet
      case rel => exact ⟨_, (true), (by first | rfl | (simp; done) | (simp [*]; done)), H', ⟨by first | omega | exact Nat.le_refl _⟩, ⟨by (with_reducible repeat (first | refine blk_drewN ?_ _ | refine blk_drew ?_ | refine blk_alloc ?_ _)); exact BK532.out⟩, ⟨HB_⟩⟩
    rw [if_pos c15] at H
    have c15b0 : ((l1.length : Int) == a0_0) = true := beq_iff_eq.mpr c15
    have c15b1 : ((l1.length : Int) != a0_0) = false := bne_eq_false_iff_eq.mpr c15
    clear c15
    replace H := bd_ H
    obtain ⟨t535, A16, H⟩ := H
    (try dsimp only at H)
    by_cases c17 : t535 = true
    rotate_left
    · replace c17 := Bool.eq_false_iff.mpr c17
      subst c17
      replace H := ng1_ H
      have H' := Aside0.mk H
      clear H
      obtain ⟨hcz33_0, hcz33_1, hfz33_0, hfz33_1⟩ := cz2_ BK532
      go_wp2_with (first | ((with_reducible refine gate_callee (f := 12) rfl ?_); refine goesL_ (some 22) rfl rfl Try.func12 (by kernel_rfl) rfl #[.slice A0_1 l0_1.length c0_1] rfl MP_ ?_; (with_reducible refine (warrantorref08_Large.calls _ _ l0_1 false _ ?side1 ?side2 A8.out).mono ?_); (case side1 => exact sd_ (Kd.C_below HR0_1.out HB.out)); (case side2 => exact HC0_1.out); rintro e w' ⟨rfl, ⟨nd, rfl⟩⟩; refine ⟨_, rfl, ?_⟩) | (go_at_call 27; (with_reducible refine (warrantorref08_Check.calls k a0_0 _ _ l0_1 true _ ?side1 ?side2 A13.out).mono ?_); (case side1 => repeat (first | exact (Kd.C_below HR0_1.out HB_) | (with_reducible refine Kd.C_alloc ?_ _) | (with_reducible refine Kd.C_drewN ?_ _) | (with_reducible refine Kd.C_drew ?_))); (case side2 => exact HC0_1.out); rintro e w34 ⟨rfl, hb⟩; have n_ := a_ (bb_ BK532 hb) (bs_ HB hb); clear BK532 HB; obtain ⟨BK532, HB⟩ := n_; (try clear hb); (try clear hb2); (try clear hk); (try clear hi); obtain ⟨hcz35_0, hcz35_1, hfz35_0, hfz35_1⟩ := cz2_ BK532) | (go_at_call 28; (with_reducible refine (warrantorref09_Var.calls a0_0 _ _ l0_1 a2 false _ ?side1 ?side2 A16.out).mono ?_); (case side1 => exact sd_ (Kd.C_below HR0_1.out HB.out)); (case side2 => exact HC0_1.out); rintro e w36 ⟨rfl, hb⟩; have n_ := a_ (bb_ BK532 hb) (bs_ HB hb); clear BK532 HB; obtain ⟨BK532, HB⟩ := n_; (try clear hb); (try clear hb2); (try clear hk); (try clear hi)))
      go_meet
      case rel => exact ⟨_, (true), (by first | rfl | (simp; done) | (simp [*]; done)), H', ⟨by first | omega | exact Nat.le_refl _⟩, ⟨by (with_reducible repeat (first | refine blk_drewN ?_ _ | refine blk_drew ?_ | refine blk_alloc ?_ _)); exact BK532.out⟩, ⟨HB_⟩⟩
    subst c17
    replace H := ps1_ H
    replace H := bd_ H
    obtain ⟨t536, A18, H⟩ := H
    (try dsimp only at H)
    by_cases c19 : t536 = true
    rotate_left
    · replace c19 := Bool.eq_false_iff.mpr c19
      subst c19
      replace H := ng1_ H
      have H' := Aside0.mk H
      clear H
      obtain ⟨hcz27_0, hcz27_1, hfz27_0, hfz27_1⟩ := cz2_ BK532
      go_wp2_with (first | ((with_reducible refine gate_callee (f := 12) rfl ?_); refine goesL_ (some 22) rfl rfl Try.func12 (by kernel_rfl) rfl #[.slice A0_1 l0_1.length c0_1] rfl MP_ ?_; (with_reducible refine (warrantorref08_Large.calls _ _ l0_1 false _ ?side1 ?side2 A8.out).mono ?_); (case side1 => exact sd_ (Kd.C_below HR0_1.out HB.out)); (case side2 => exact HC0_1.out); rintro e w' ⟨rfl, ⟨nd, rfl⟩⟩; refine ⟨_, rfl, ?_⟩) | (go_at_call 27; (with_reducible refine (warrantorref08_Check.calls k a0_0 _ _ l0_1 true _ ?side1 ?side2 A13.out).mono ?_); (case side1 => repeat (first | exact (Kd.C_below HR0_1.out HB_) | (with_reducible refine Kd.C_alloc ?_ _) | (with_reducible refine Kd.C_drewN ?_ _) | (with_reducible refine Kd.C_drew ?_))); (case side2 => exact HC0_1.out); rintro e w28 ⟨rfl, hb⟩; have n_ := a_ (bb_ BK532 hb) (bs_ HB hb); clear BK532 HB; obtain ⟨BK532, HB⟩ := n_; (try clear hb); (try clear hb2); (try clear hk); (try clear hi); obtain ⟨hcz29_0, hcz29_1, hfz29_0, hfz29_1⟩ := cz2_ BK532) | (go_at_call 28; (with_reducible refine (warrantorref09_Var.calls a0_0 _ _ l0_1 a2 true _ ?side1 ?side2 A16.out).mono ?_); (case side1 => exact sd_ (Kd.C_below HR0_1.out HB.out)); (case side2 => exact HC0_1.out); rintro e w30 ⟨rfl, hb⟩; have n_ := a_ (bb_ BK532 hb) (bs_ HB hb); clear BK532 HB; obtain ⟨BK532, HB⟩ := n_; (try clear hb); (try clear hb2); (try clear hk); (try clear hi); obtain ⟨hcz31_0, hcz31_1, hfz31_0, hfz31_1⟩ := cz2_ BK532) | (go_at_call 29; (with_reducible refine (warrantorref09_Or0.calls a0_0 _ _ l0_1 a3 false _ ?side1 ?side2 A18.out).mono ?_); (case side1 => exact sd_ (Kd.C_below HR0_1.out HB.out)); (case side2 => exact HC0_1.out); rintro e w32 ⟨rfl, hb⟩; have n_ := a_ (bb_ BK532 hb) (bs_ HB hb); clear BK532 HB; obtain ⟨BK532, HB⟩ := n_; (try clear hb); (try clear hb2); (try clear hk); (try clear hi)))
      go_meet
      case rel => exact ⟨_, (true), (by first | rfl | (simp; done) | (simp [*]; done)), H', ⟨by first | omega | exact Nat.le_refl _⟩, ⟨by (with_reducible repeat (first | refine blk_drewN ?_ _ | refine blk_drew ?_ | refine blk_alloc ?_ _)); exact BK532.out⟩, ⟨HB_⟩⟩
    subst c19
    replace H := ps1_ H
    replace H := bd_ H
    obtain ⟨t537, A20, H⟩ := H
    (try dsimp only at H)
    have H' := Aside0.mk H
    clear H
    obtain ⟨hcz21_0, hcz21_1, hfz21_0, hfz21_1⟩ := cz2_ BK532
    go_wp2_with (first | ((with_reducible refine gate_callee (f := 12) rfl ?_); refine goesL_ (some 22) rfl rfl Try.func12 (by kernel_rfl) rfl #[.slice A0_1 l0_1.length c0_1] rfl MP_ ?_; (with_reducible refine (warrantorref08_Large.calls _ _ l0_1 false _ ?side1 ?side2 A8.out).mono ?_); (case side1 => exact sd_ (Kd.C_below HR0_1.out HB.out)); (case side2 => exact HC0_1.out); rintro e w' ⟨rfl, ⟨nd, rfl⟩⟩; refine ⟨_, rfl, ?_⟩) | (go_at_call 27; (with_reducible refine (warrantorref08_Check.calls k a0_0 _ _ l0_1 true _ ?side1 ?side2 A13.out).mono ?_); (case side1 => repeat (first | exact (Kd.C_below HR0_1.out HB_) | (with_reducible refine Kd.C_alloc ?_ _) | (with_reducible refine Kd.C_drewN ?_ _) | (with_reducible refine Kd.C_drew ?_))); (case side2 => exact HC0_1.out); rintro e w22 ⟨rfl, hb⟩; have n_ := a_ (bb_ BK532 hb) (bs_ HB hb); clear BK532 HB; obtain ⟨BK532, HB⟩ := n_; (try clear hb); (try clear hb2); (try clear hk); (try clear hi); obtain ⟨hcz23_0, hcz23_1, hfz23_0, hfz23_1⟩ := cz2_ BK532) | (go_at_call 28; (with_reducible refine (warrantorref09_Var.calls a0_0 _ _ l0_1 a2 true _ ?side1 ?side2 A16.out).mono ?_); (case side1 => exact sd_ (Kd.C_below HR0_1.out HB.out)); (case side2 => exact HC0_1.out); rintro e w24 ⟨rfl, hb⟩; have n_ := a_ (bb_ BK532 hb) (bs_ HB hb); clear BK532 HB; obtain ⟨BK532, HB⟩ := n_; (try clear hb); (try clear hb2); (try clear hk); (try clear hi); obtain ⟨hcz25_0, hcz25_1, hfz25_0, hfz25_1⟩ := cz2_ BK532) | (go_at_call 29; (with_reducible refine (warrantorref09_Or0.calls a0_0 _ _ l0_1 a3 true _ ?side1 ?side2 A18.out).mono ?_); (case side1 => exact sd_ (Kd.C_below HR0_1.out HB.out)); (case side2 => exact HC0_1.out); rintro e w26 ⟨rfl, hb⟩; have n_ := a_ (bb_ BK532 hb) (bs_ HB hb); clear BK532 HB; obtain ⟨BK532, HB⟩ := n_; (try clear hb); (try clear hb2); (try clear hk); (try clear hi)) | (go_at_call 43; (with_reducible refine (warrantorref06_Is.calls a4 t537 _ A20.out).mono ?_); rintro e w' ⟨rfl, ⟨nd, rfl⟩⟩))
    go_meet
    case rel => exact ⟨_, (!t537), (by first | rfl | (simp; done) | (simp [*]; done)), H', ⟨by first | omega | exact Nat.le_refl _⟩, ⟨by (with_reducible repeat (first | refine blk_drewN ?_ _ | refine blk_drew ?_ | refine blk_alloc ?_ _)); exact BK532.out⟩, ⟨HB_⟩⟩
  case rest =>
    clear HC6
    try clear c1
    try clear p2
    try clear c7
    try clear c9
    try clear c11
    try clear c11b0
    try clear c11b1
    try clear c12
    try clear c14
    try clear c15
    try clear c15b0
    try clear c15b1
    try clear c17
    try clear c19
    try clear hcz10_0
    try clear hcz10_1
    try clear hcz12_0
    try clear hcz12_1
    try clear hcz21_0
    try clear hcz21_1
    try clear hcz23_0
    try clear hcz23_1
    try clear hcz25_0
    try clear hcz25_1
    try clear hcz27_0
    try clear hcz27_1
    try clear hcz29_0
    try clear hcz29_1
    try clear hcz31_0
    try clear hcz31_1
    try clear hcz33_0
    try clear hcz33_1
    try clear hcz35_0
    try clear hcz35_1
    try clear hcz37_0
    try clear hcz37_1
    try clear hcz39_0
    try clear hcz39_1
    try clear hcz40_0
    try clear hcz40_1
    try clear hfz10_0
    try clear hfz10_1
    try clear hfz12_0
    try clear hfz12_1
    try clear hfz21_0
    try clear hfz21_1
    try clear hfz23_0
    try clear hfz23_1
    try clear hfz25_0
    try clear hfz25_1
    try clear hfz27_0
    try clear hfz27_1
    try clear hfz29_0
    try clear hfz29_1
    try clear hfz31_0
    try clear hfz31_1
    try clear hfz33_0
    try clear hfz33_1
    try clear hfz35_0
    try clear hfz35_1
    try clear hfz37_0
    try clear hfz37_1
    try clear hfz39_0
    try clear hfz39_1
    try clear hfz40_0
    try clear hfz40_1
    obtain ⟨kq, x56_5, rfl, HA, HJ5, BK532, HB⟩ := hcut
    cases kq with
    | zero => exact absurd HA.out (by simp [warrantorlaw09_ZoneSteps.j0])
    | succ kj5 =>
      have H := HA.out
      clear HA
      simp only [warrantorlaw09_ZoneSteps.j0] at H
      by_cases c42 : x56_5 = true
      · subst c42
        replace H := ps1_ H
        replace H := bd_ H
        obtain ⟨t538, A43, H⟩ := H
        (try dsimp only at H)
        obtain rfl := Option.some.inj H
        go_wp2_with (first | ((with_reducible refine gate_callee (f := 22) rfl ?_); refine goesL_ (some 57) rfl rfl Try.func22 (by kernel_rfl) rfl #[] rfl MP_ ?_; (with_reducible refine (warrantorlaw09_lives.calls kj5  t538 _ A43.out).mono ?_); rintro e w44 ⟨rfl, hb⟩; refine ⟨_, rfl, ?_⟩; have n_ := a_ (bb_ BK532 hb) (bs_ HB hb); clear BK532 HB; obtain ⟨BK532, HB⟩ := n_; (try clear hb); (try clear hb2); (try clear hk); (try clear hi)))
        go_ret
        exact ⟨by first | rfl | (simp [errW_none, errW_some] <;> rfl) | (simp [*, errW_none, errW_some] <;> rfl), HB_⟩
      replace c42 := Bool.eq_false_iff.mpr c42
      subst c42
      replace H := ng1_ H
      replace H := bd_ H
      obtain ⟨⟨t539, t540, t543⟩, A45, H⟩ := H
      (try dsimp only at H)
      replace H := bd_ H
      obtain ⟨⟨t545, t546, t549⟩, A46, H⟩ := H
      (try dsimp only at H)
      replace H := bd_ H
      obtain ⟨t551, A47, H⟩ := H
      (try dsimp only at H)
      replace H := yes_ H
      obtain ⟨c48, H⟩ := H
      subst c48
      have HC49 := Aside0.mk H
      clear H
      obtain ⟨hcz50_0, hcz50_1, hfz50_0, hfz50_1⟩ := cz2_ BK532
      go_upto_if 76 with (first | ((with_reducible refine gate_callee (f := 24) rfl ?_); refine goesL_ (some 61) rfl rfl Try.func24 (by kernel_rfl) rfl #[.agg #[.int .i64 a0_0, .slice A0_1 l0_1.length c0_1], .int .i64 a2] rfl MP_ ?_; (with_reducible refine (zone_Forget.calls kj5 a0_0 _ _ l0_1 a2 t539 t540 t543 _ ?side1 ?side2 A45.out).mono ?_); (case side1 => exact sd_ (Kd.C_below HR0_1.out HB.out)); (case side2 => exact HC0_1.out); rintro e w51 ⟨v541, rfl, ho0, hb⟩; refine ⟨_, rfl, ?_⟩; have n_ := a_ (Aside0.mk (Kd.R_lower ho0 (below_size HB_))) (a_ (bb_ BK532 hb) (bs_ HB hb)); clear BK532 HB; obtain ⟨HO542, BK532, HB⟩ := n_; (try clear hb); (try clear hb2); (try clear hk); (try clear hi); (try clear ho0)) | ((with_reducible refine gate_dst (N := 11) rfl ?_); (try (refine gate_guard (by rfl) ?_; dsimp only)); refine bx_ (N := 11) (cs := #[.int .i64 0, .slice none 0 0]) (t := 24) ?_; intro gb544 hg w52 hbox hb; have n_ := a_ (rb_ HO542 hb) (a_ (bb_ BK532 hb) (a_ (bs_ HB hb) (a_ (Aside0.mk hbox) (a_ (gs_ HB hg) (a_ (gs_ HB hg) (a_ (nl_ BK532 hg) (ng_ BK532 hg))))))); clear HO542 BK532 HB; obtain ⟨HO542, BK532, HB, BK544, GW544, GE544, NB532_544, NB544_532⟩ := n_; clear hb hbox hg; have hnb53 := NB544_532.out; have hnc53 := NB532_544.out; obtain ⟨hcz54_0, hcz54_1, hfz54_0, hfz54_1⟩ := cz2_ BK544; obtain ⟨Ao55, co55, eo55⟩ := Kd.R_slice HO542.out; subst eo55; obtain ⟨hcz56_0, hcz56_1, hfz56_0, hfz56_1⟩ := cz2_ BK532) | ((with_reducible refine gate_callee (f := 25) rfl ?_); refine goesL_ (some 69) rfl rfl Try.func25 (by kernel_rfl) rfl #[.agg #[.int .i64 a0_0, .slice A0_1 l0_1.length c0_1], .int .i64 a2, .int .i64 a3, .int .i64 a4] rfl MP_ ?_; (with_reducible refine (zone_Let.calls kj5 a0_0 _ _ l0_1 a2 a3 a4 t545 t546 t549 _ ?side1 ?side2 A46.out).mono ?_); (case side1 => exact Kd.C_below HR0_1.out HB_); (case side2 => exact HC0_1.out); rintro e w57 ⟨v547, rfl, ho0, hb⟩; refine ⟨_, rfl, ?_⟩; have n_ := a_ (Aside0.mk (Kd.R_elder' (rd_ (rf2_ HO542 BK544 (.int .i64 t539) (.slice Ao55 t540.length co55))) (Kd.R_base ho0) hb)) (a_ (Aside0.mk (Kd.R_lower (Kd.R_new' ho0 (Kd.R_lt (rd_ (rf2_ HO542 BK544 (.int .i64 t539) (.slice Ao55 t540.length co55))))) (below_size HB_))) (a_ (bc_ #[.int .i64 a0_0, .slice A0_1 l0_1.length c0_1] 24 BK532 hb) (a_ (bc_ #[.int .i64 t539, .slice Ao55 t540.length co55] 24 BK544 hb) (bs_ HB hb)))); clear HO542 BK532 BK544 HB; obtain ⟨HO542, HO548, BK532, BK544, HB⟩ := n_; (try clear hb); (try clear hb2); (try clear hk); (try clear hi); (try clear ho0)) | ((with_reducible refine gate_dst (N := 13) rfl ?_); (try (refine gate_guard (by rfl) ?_; dsimp only)); refine bx_ (N := 13) (cs := #[.int .i64 0, .slice none 0 0]) (t := 24) ?_; intro gb550 hg w58 hbox hb; have n_ := a_ (rb_ HO542 hb) (a_ (rb_ HO548 hb) (a_ (bb_ BK532 hb) (a_ (bb_ BK544 hb) (a_ (bs_ HB hb) (a_ (Aside0.mk hbox) (a_ (gs_ HB hg) (a_ (gs_ HB hg) (a_ (nl_ BK532 hg) (a_ (ng_ BK532 hg) (a_ (nl_ BK544 hg) (ng_ BK544 hg))))))))))); clear HO542 HO548 BK532 BK544 HB; obtain ⟨HO542, HO548, BK532, BK544, HB, BK550, GW550, GE550, NB532_550, NB550_532, NB544_550, NB550_544⟩ := n_; clear hb hbox hg; have hnb59 := NB550_532.out; have hnc59 := NB532_550.out; have hnb60 := NB550_544.out; have hnc60 := NB544_550.out; obtain ⟨hcz61_0, hcz61_1, hfz61_0, hfz61_1⟩ := cz2_ BK550; obtain ⟨Ao62, co62, eo62⟩ := Kd.R_slice HO548.out; subst eo62) | ((with_reducible refine gate_callee (f := 22) rfl ?_); refine goesL_ (some 72) rfl rfl Try.func22 (by kernel_rfl) rfl #[] rfl MP_ ?_; (with_reducible refine (warrantorlaw09_lives.calls kj5  true _ A47.out).mono ?_); rintro e w63 ⟨rfl, hb⟩; refine ⟨_, rfl, ?_⟩; have n_ := a_ (Aside0.mk (Kd.R_below (rd_ (rf2_ HO542 BK550 (.int .i64 t545) (.slice Ao62 t546.length co62))) hb)) (a_ (Aside0.mk (Kd.R_below (rd_ (rf2_ HO548 BK550 (.int .i64 t545) (.slice Ao62 t546.length co62))) hb)) (a_ (bc_ #[.int .i64 a0_0, .slice A0_1 l0_1.length c0_1] 24 BK532 hb) (a_ (bc_ #[.int .i64 t539, .slice Ao55 t540.length co55] 24 BK544 hb) (a_ (bc_ #[.int .i64 t545, .slice Ao62 t546.length co62] 24 BK550 hb) (bs_ HB hb))))); clear HO542 HO548 BK532 BK544 BK550 HB; obtain ⟨HO542, HO548, BK532, BK544, BK550, HB⟩ := n_; (try clear hb); (try clear hb2); (try clear hk); (try clear hi)))
      (try simp only [Act.put, List.setIfInBounds_toArray, List.set_cons_zero, List.set_cons_succ])
      go_cut [] (fun wc => ∃ (kq : Nat), Aside0 (warrantorlaw09_ZoneSteps.j1 kq l1 a2 a3 a0_0 l0_1 t539 t540 t545 t546 = some r) ∧ Aside0 (kq ≤ kj5) ∧ Aside0 (Kd.R (Kd.int .i64) 3 wc w.heap.size (fun k_ => some k_ ≠ ((.slice Ao62 t546.length co62) : Value).ownBlock) (.slice Ao55 t540.length co55) t540) ∧ Aside0 (Kd.R (Kd.int .i64) 3 wc w.heap.size (fun k_ => some k_ ≠ ((.slice Ao55 t540.length co55) : Value).ownBlock) (.slice Ao62 t546.length co62) t546) ∧ Aside0 (wc.heap[gb532]? = some (.cells #[.int .i64 a0_0, (.slice A0_1 l0_1.length c0_1)] 24 (0, 0))) ∧ Aside0 (wc.heap[gb544]? = some (.cells #[.int .i64 t539, (.slice Ao55 t540.length co55)] 24 (0, 0))) ∧ Aside0 (wc.heap[gb550]? = some (.cells #[.int .i64 t545, (.slice Ao62 t546.length co62)] 24 (0, 0))) ∧ Aside0 (Below w.heap.size w wc))
      case first =>
        have H := HC49.out
        clear HC49
        by_cases c64 : a2 = a3
        rotate_left
        · rw [if_neg c64] at H
          have c64b0 : (a2 == a3) = false := beq_eq_false_iff_ne.mpr c64
          have c64b1 : (a2 != a3) = true := bne_iff_ne.mpr c64
          (first | rw [c64b0] | (simp only [i64_w, i32_w]; rw [c64b0]) | skip)
          replace H := bd_ H
          obtain ⟨t561, A86, H⟩ := H
          (try dsimp only at H)
          by_cases c87 : t561 = true
          rotate_left
          · replace c87 := Bool.eq_false_iff.mpr c87
            subst c87
            replace H := ng1_ H
            have H' := Aside0.mk H
            clear H
            have hnb95 := NB550_532.out
            have hnc95 := NB532_550.out
            have hnb96 := NB550_544.out
            have hnc96 := NB544_550.out
            obtain ⟨hcz97_0, hcz97_1, hfz97_0, hfz97_1⟩ := cz2_ BK550
            go_wp2_with (first | ((with_reducible refine gate_callee (f := 45) rfl ?_); refine goesL_ (some 104) rfl rfl Try.func45 (by kernel_rfl) rfl #[.agg #[.int .i64 t545, .slice Ao62 t546.length co62], .slice A1 l1.length c1] rfl MP_ ?_; (with_reducible refine (dbm_Has.calls kj5 t545 _ _ t546 _ _ l1 false _ ?side1 ?side2 ?side3 ?side4 A86.out).mono ?_); (case side1 => repeat (first | exact (Kd.R_reads' HO548.out).2.2 | (with_reducible refine Kd.C_alloc ?_ _) | (with_reducible refine Kd.C_drewN ?_ _) | (with_reducible refine Kd.C_drew ?_))); (case side2 => exact (Kd.R_reads' HO548.out).2.1); (case side3 => exact sd_ (Kd.C_below HR1.out HB.out)); (case side4 => exact HC1.out); rintro e w98 ⟨rfl, hb⟩; refine ⟨_, rfl, ?_⟩; have n_ := a_ (rb_ HO542 hb) (a_ (rb_ HO548 hb) (a_ (bb_ BK532 hb) (a_ (bb_ BK544 hb) (a_ (bb_ BK550 hb) (bs_ HB hb))))); clear HO542 HO548 BK532 BK544 BK550 HB; obtain ⟨HO542, HO548, BK532, BK544, BK550, HB⟩ := n_; (try clear hb); (try clear hb2); (try clear hk); (try clear hi)))
            go_meet
            case rel => exact ⟨_, H', ⟨by have := HJ5.out; first | omega | exact Nat.le_refl _⟩, ⟨by (with_reducible repeat (first | apply Kd.R_alloc | apply Kd.R_drewN | apply Kd.R_drew)); exact Kd.R_mono HO542.out (fun _ hk => by first | exact hk.2 | exact hk | exact hk.1 | exact hk.2 | exact hk.1.1 | exact hk.1.2)⟩, ⟨by (with_reducible repeat (first | apply Kd.R_alloc | apply Kd.R_drewN | apply Kd.R_drew)); exact Kd.R_mono HO548.out (fun _ hk => by first | exact hk.2 | exact hk | exact hk.1 | exact hk.2 | exact hk.1.1 | exact hk.1.2)⟩, ⟨by (with_reducible repeat (first | refine blk_drewN ?_ _ | refine blk_drew ?_ | refine blk_alloc ?_ _)); exact BK532.out⟩, ⟨by (with_reducible repeat (first | refine blk_drewN ?_ _ | refine blk_drew ?_ | refine blk_alloc ?_ _)); exact BK544.out⟩, ⟨by (with_reducible repeat (first | refine blk_drewN ?_ _ | refine blk_drew ?_ | refine blk_alloc ?_ _)); exact BK550.out⟩, ⟨HB_⟩⟩
          subst c87
          replace H := ps1_ H
          replace H := bd_ H
          obtain ⟨t562, A88, H⟩ := H
          (try dsimp only at H)
          replace H := bd_ H
          obtain ⟨t563, A89, H⟩ := H
          (try dsimp only at H)
          replace H := yes_ H
          obtain ⟨c90, H⟩ := H
          have c90b0 : (t562 == (wrap64 (t563 + a4))) = true := beq_iff_eq.mpr c90
          have c90b0v : (t562 == (IntKind.i64.wrap (t563 + a4))) = true := by (try simp only [i64_w]); exact c90b0
          have c90b1 : (t562 != (wrap64 (t563 + a4))) = false := bne_eq_false_iff_eq.mpr c90
          have c90b1v : (t562 != (IntKind.i64.wrap (t563 + a4))) = false := by (try simp only [i64_w]); exact c90b1
          clear c90
          have H' := Aside0.mk H
          clear H
          have hnb91 := NB550_532.out
          have hnc91 := NB532_550.out
          have hnb92 := NB550_544.out
          have hnc92 := NB544_550.out
          obtain ⟨hcz93_0, hcz93_1, hfz93_0, hfz93_1⟩ := cz2_ BK550
          go_wp2_with (first | ((with_reducible refine gate_callee (f := 45) rfl ?_); refine goesL_ (some 104) rfl rfl Try.func45 (by kernel_rfl) rfl #[.agg #[.int .i64 t545, .slice Ao62 t546.length co62], .slice A1 l1.length c1] rfl MP_ ?_; (with_reducible refine (dbm_Has.calls kj5 t545 _ _ t546 _ _ l1 true _ ?side1 ?side2 ?side3 ?side4 A86.out).mono ?_); (case side1 => repeat (first | exact (Kd.R_reads' HO548.out).2.2 | (with_reducible refine Kd.C_alloc ?_ _) | (with_reducible refine Kd.C_drewN ?_ _) | (with_reducible refine Kd.C_drew ?_))); (case side2 => exact (Kd.R_reads' HO548.out).2.1); (case side3 => exact sd_ (Kd.C_below HR1.out HB.out)); (case side4 => exact HC1.out); rintro e w94 ⟨rfl, hb⟩; refine ⟨_, rfl, ?_⟩; have n_ := a_ (rb_ HO542 hb) (a_ (rb_ HO548 hb) (a_ (bb_ BK532 hb) (a_ (bb_ BK544 hb) (a_ (bb_ BK550 hb) (bs_ HB hb))))); clear HO542 HO548 BK532 BK544 BK550 HB; obtain ⟨HO542, HO548, BK532, BK544, BK550, HB⟩ := n_; (try clear hb); (try clear hb2); (try clear hk); (try clear hi)) | (go_at_call 44; (with_reducible refine (warrantorlaw09_value.calls _ _ l1 a2 t562 _ ?side1 ?side2 A88.out).mono ?_); (case side1 => exact sd_ (Kd.C_below HR1.out HB.out)); (case side2 => exact HC1.out); rintro e w' ⟨rfl, ⟨nd, rfl⟩⟩; (try clear A88)) | (go_at_call 44; (with_reducible refine (warrantorlaw09_value.calls _ _ l1 a3 t563 _ ?side1 ?side2 A89.out).mono ?_); (case side1 => repeat (first | exact (Kd.C_below HR1.out HB_) | (with_reducible refine Kd.C_alloc ?_ _) | (with_reducible refine Kd.C_drewN ?_ _) | (with_reducible refine Kd.C_drew ?_))); (case side2 => exact HC1.out); rintro e w' ⟨rfl, ⟨nd, rfl⟩⟩))
          go_meet
          case rel => exact ⟨_, H', ⟨by have := HJ5.out; first | omega | exact Nat.le_refl _⟩, ⟨by (with_reducible repeat (first | apply Kd.R_alloc | apply Kd.R_drewN | apply Kd.R_drew)); exact Kd.R_mono HO542.out (fun _ hk => by first | exact hk.2 | exact hk | exact hk.1 | exact hk.2 | exact hk.1.1 | exact hk.1.2)⟩, ⟨by (with_reducible repeat (first | apply Kd.R_alloc | apply Kd.R_drewN | apply Kd.R_drew)); exact Kd.R_mono HO548.out (fun _ hk => by first | exact hk.2 | exact hk | exact hk.1 | exact hk.2 | exact hk.1.1 | exact hk.1.2)⟩, ⟨by (with_reducible repeat (first | refine blk_drewN ?_ _ | refine blk_drew ?_ | refine blk_alloc ?_ _)); exact BK532.out⟩, ⟨by (with_reducible repeat (first | refine blk_drewN ?_ _ | refine blk_drew ?_ | refine blk_alloc ?_ _)); exact BK544.out⟩, ⟨by (with_reducible repeat (first | refine blk_drewN ?_ _ | refine blk_drew ?_ | refine blk_alloc ?_ _)); exact BK550.out⟩, ⟨HB_⟩⟩
        rw [if_pos c64] at H
        have c64b0 : (a2 == a3) = true := beq_iff_eq.mpr c64
        have c64b1 : (a2 != a3) = false := bne_eq_false_iff_eq.mpr c64
        clear c64
        (first | rw [c64b0] | (simp only [i64_w, i32_w]; rw [c64b0]) | skip)
        replace H := bd_ H
        obtain ⟨t552, A65, H⟩ := H
        (try dsimp only at H)
        replace H := bd_ H
        obtain ⟨t553, A66, H⟩ := H
        (try dsimp only at H)
        replace H := bd_ H
        obtain ⟨t554, A67, H⟩ := H
        (try dsimp only at H)
        by_cases c68 : t554 = true
        rotate_left
        · replace c68 := Bool.eq_false_iff.mpr c68
          subst c68
          replace H := ng1_ H
          by_cases c83 : (t553 != false) = true
          · rw [if_pos c83] at H
            exact absurd H (by simp)
          rw [if_neg c83] at H
          have c83b0 : (t553 != false) = false := by simpa using c83
          (try (have c83b1 : decide (t553 = false) = true := by simpa using c83))
          (try (have c83b2 : (t553 == false) = true := by simpa using c83))
          clear c83
          have H' := Aside0.mk H
          clear H
          try go_wp2_with (first | ((with_reducible refine gate_callee (f := 44) rfl ?_); refine goesL_ (some 79) rfl rfl Try.func44 (by kernel_rfl) rfl #[.slice A1 l1.length c1, .int .i64 a2] rfl MP_ ?_; (with_reducible refine (warrantorlaw09_value.calls _ _ l1 a2 t552 _ ?side1 ?side2 A65.out).mono ?_); (case side1 => exact sd_ (Kd.C_below HR1.out HB.out)); (case side2 => exact HC1.out); rintro e w' ⟨rfl, ⟨nd, rfl⟩⟩; refine ⟨_, rfl, ?_⟩))
          (try (rw [drewN_self w63]; generalize hq_ : World.drewN w63 _ = w63; have n0_ : Aside0 (Kd.R (Kd.int .i64) 3 w63 w.heap.size (fun k_ => some k_ ≠ (.slice Ao62 t546.length co62 : Value).ownBlock) (.slice Ao55 t540.length co55) t540) := ⟨by rw [← hq_]; exact (rd_ (Kd.R_mono HO542.out (fun _ hk => hk.2)))⟩; have n1_ : Aside0 (Kd.R (Kd.int .i64) 3 w63 w.heap.size (fun k_ => some k_ ≠ (.slice Ao55 t540.length co55 : Value).ownBlock) (.slice Ao62 t546.length co62) t546) := ⟨by rw [← hq_]; exact (rd_ (Kd.R_mono HO548.out (fun _ hk => hk.2)))⟩; have n2_ : Aside0 (w63.heap[gb532]? = some (.cells #[.int .i64 a0_0, .slice A0_1 l0_1.length c0_1] 24 (0, 0))) := ⟨by rw [← hq_]; exact (bk_ BK532.out)⟩; have n3_ : Aside0 (w63.heap[gb544]? = some (.cells #[.int .i64 t539, .slice Ao55 t540.length co55] 24 (0, 0))) := ⟨by rw [← hq_]; exact (bk_ BK544.out)⟩; have n4_ : Aside0 (w63.heap[gb550]? = some (.cells #[.int .i64 t545, .slice Ao62 t546.length co62] 24 (0, 0))) := ⟨by rw [← hq_]; exact (bk_ BK550.out)⟩; have n5_ : Aside0 (Below w.heap.size w w63) := ⟨by rw [← hq_]; exact HB_⟩; clear HO542 HO548 BK532 BK544 BK550 HB hq_; have HO542 := n0_; have HO548 := n1_; have BK532 := n2_; have BK544 := n3_; have BK550 := n4_; have HB := n5_; clear n0_ n1_ n2_ n3_ n4_ n5_; (try (obtain ⟨hczu_gb532_0, hczu_gb532_1, hfzu_gb532_0, hfzu_gb532_1⟩ := cz2_ BK532; obtain ⟨hczu_gb544_0, hczu_gb544_1, hfzu_gb544_0, hfzu_gb544_1⟩ := cz2_ BK544; obtain ⟨hczu_gb550_0, hczu_gb550_1, hfzu_gb550_0, hfzu_gb550_1⟩ := cz2_ BK550))))
          first | (obtain ⟨w63, hq_⟩ : ∃ x, x = w63.drewN nd := ⟨_, rfl⟩; rw [← hq_]; have q0_ := Aside0.mk (Kd.R_drewN HO542.out nd); rw [← hq_] at q0_; have q1_ := Aside0.mk (Kd.R_drewN HO548.out nd); rw [← hq_] at q1_; have q2_ := Aside0.mk (blk_drewN BK532.out nd); rw [← hq_] at q2_; have q3_ := Aside0.mk (blk_drewN BK544.out nd); rw [← hq_] at q3_; have q4_ := Aside0.mk (blk_drewN BK550.out nd); rw [← hq_] at q4_; have q5_ := Aside0.mk (pw_below_drewN HB.out nd); rw [← hq_] at q5_; clear HO542; clear HO548; clear BK532; clear BK544; clear BK550; clear HB; have HO542 := q0_; have HO548 := q1_; have BK532 := q2_; have BK544 := q3_; have BK550 := q4_; have HB := q5_; clear hq_ q0_ q1_ q2_ q3_ q4_ q5_) | skip
          have n_ := a_ (Aside0.mk (Kd.R_drew HO542.out)) (a_ (Aside0.mk (Kd.R_drew HO548.out)) (a_ (Aside0.mk (blk_drew BK532.out)) (a_ (Aside0.mk (blk_drew BK544.out)) (a_ (Aside0.mk (blk_drew BK550.out)) (Aside0.mk (below_drew1 HB.out))))))
          clear HO542 HO548 BK532 BK544 BK550 HB
          obtain ⟨HO542, HO548, BK532, BK544, BK550, HB⟩ := n_
          refine start_ (n := 20) (S := fun w' => w'.cell? ⟨gb550, 0, none⟩ = some (.int .i64 t545) ∧ w'.cell? ⟨gb550, 1, none⟩ = some (.slice Ao62 t546.length co62)) (ds := []) #[false, false, false, false, false, false, false, false, false, false, false, false, false, false, false, false, false, false, false, false] (by kernel_rfl) rfl rfl ⟨(blk_cell BK550.out 0).trans rfl, (blk_cell BK550.out 1).trans rfl⟩ (fun hHeld => ?_); refine with_tabW warrantorlaw09_ZoneSteps.tab9 warrantorlaw09_ZoneSteps.bits9 (fun HT_ HW_ => ?_)
          generalize w63.drew = w84 at HO542 HO548 BK532 BK544 BK550 HB hHeld ⊢
          refine pu_ 1 (some 83) ?_
          refine pu_ 3 (some 85) ?_
          refine take_ (i := 0) (N := some 82) (v := ?_) (a' := ?_) #[true, true, false, true, false, false, false, false, false, false, false, false, false, false, false, false, false, false, false, false] rfl rfl (take_ofW HT_.out HW_.out (by kernel_rfl)) (fun _ _ _ h => h) (Or.inl ⟨by rfl, ?_⟩) hHeld ?_ ?_
          rotate_left
          · rintro w' ⟨s0, s1⟩
            go_simp
            with_reducible rfl
          rotate_left
          · exact AP_
          refine on_ 2 (some 84) (fun K hK => ?_)
          refine goes_ Try.func45 (by kernel_rfl) rfl #[.agg #[.int .i64 t545, .slice Ao62 t546.length co62], .slice A1 l1.length c1] (by rfl) rfl rfl MP_ ?_
          with_reducible refine (dbm_Has.calls kj5 t545 _ _ t546 _ _ l1 t553 _ ?side1 ?side2 ?side3 ?side4 A66.out).mono ?_
          (case side1 => repeat (first | exact (Kd.R_reads' HO548.out).2.2 | (with_reducible refine Kd.C_alloc ?_ _) | (with_reducible refine Kd.C_drewN ?_ _) | (with_reducible refine Kd.C_drew ?_)))
          (case side2 => exact (Kd.R_reads' HO548.out).2.1)
          (case side3 => exact sd_ (Kd.C_below HR1.out HB.out))
          (case side4 => exact HC1.out)
          rintro e w85 ⟨rfl, hb⟩
          refine ⟨_, rfl, ?_⟩
          have n_ := a_ (rb_ HO542 hb) (a_ (rb_ HO548 hb) (a_ (bb_ BK532 hb) (a_ (bb_ BK544 hb) (a_ (bb_ BK550 hb) (bs_ HB hb)))))
          clear HO542 HO548 BK532 BK544 BK550 HB
          obtain ⟨HO542, HO548, BK532, BK544, BK550, HB⟩ := n_
          (try clear hb)
          (try clear hb2)
          (try clear hk)
          (try clear hi)
          refine hK.out _ _ ⟨(blk_cell BK550.out 0).trans rfl, (blk_cell BK550.out 1).trans rfl⟩ (fun hHeld => ?_)
          clear hK K
          refine nm_ ?_
          refine on_ 4 (some 86) (fun K hK => ?_)
          refine goes_ Try.func43 (by kernel_rfl) rfl #[.int .i64 (wrap64 (t552 - a4))] (by rfl) rfl rfl MP_ ?_
          with_reducible refine (warrantorref06_Is.calls (wrap64 (t552 - a4)) false _ A67.out).mono ?_
          rintro e w' ⟨rfl, ⟨nd, rfl⟩⟩
          refine ⟨_, rfl, ?_⟩
          refine hK.out _ _ ⟨(blk_cell BK550.out 0).trans rfl, (blk_cell BK550.out 1).trans rfl⟩ (fun hHeld => ?_)
          clear hK K
          refine nm_ ?_
          refine pu_ 5 (some 87) ?_
          refine pv_ 6 (some 88) ?_
          refine pv_ 7 (some 89) ?_
          refine pv_ 8 (some 90) ?_
          refine pv_ 9 (some 91) ?_
          refine pu_ 10 (some 92) ?_
          refine pu_ 11 (some 93) ?_
          refine pv_ 12 (some 94) ?_
          refine pv_ 13 (some 95) ?_
          refine pv_ 14 (some 96) ?_
          refine pv_ 15 (some 97) ?_
          refine pv_ 16 (some 98) ?_
          refine pv_ 17 (some 99) ?_
          refine pu_ 18 (some 100) ?_
          refine pu_ 19 (some 101) ?_
          refine done_ (done_of HT_.out (by kernel_rfl)) ?_
          try go_wp2
          go_meet
          case rel => exact ⟨_, H', ⟨by have := HJ5.out; first | omega | exact Nat.le_refl _⟩, ⟨by (with_reducible repeat (first | apply Kd.R_alloc | apply Kd.R_drewN | apply Kd.R_drew)); exact Kd.R_mono HO542.out (fun _ hk => by first | exact hk.2 | exact hk | exact hk.1 | exact hk.2 | exact hk.1.1 | exact hk.1.2)⟩, ⟨by (with_reducible repeat (first | apply Kd.R_alloc | apply Kd.R_drewN | apply Kd.R_drew)); exact Kd.R_mono HO548.out (fun _ hk => by first | exact hk.2 | exact hk | exact hk.1 | exact hk.2 | exact hk.1.1 | exact hk.1.2)⟩, ⟨by (with_reducible repeat (first | refine blk_drewN ?_ _ | refine blk_drew ?_ | refine blk_alloc ?_ _)); exact BK532.out⟩, ⟨by (with_reducible repeat (first | refine blk_drewN ?_ _ | refine blk_drew ?_ | refine blk_alloc ?_ _)); exact BK544.out⟩, ⟨by (with_reducible repeat (first | refine blk_drewN ?_ _ | refine blk_drew ?_ | refine blk_alloc ?_ _)); exact BK550.out⟩, ⟨HB_⟩⟩
        subst c68
        replace H := ps1_ H
        replace H := bd_ H
        obtain ⟨t555, A69, H⟩ := H
        (try dsimp only at H)
        replace H := bd_ H
        obtain ⟨t556, A70, H⟩ := H
        (try dsimp only at H)
        by_cases c71 : t556 = true
        rotate_left
        · replace c71 := Bool.eq_false_iff.mpr c71
          subst c71
          replace H := ng1_ H
          by_cases c80 : (t553 != false) = true
          · rw [if_pos c80] at H
            exact absurd H (by simp)
          rw [if_neg c80] at H
          have c80b0 : (t553 != false) = false := by simpa using c80
          (try (have c80b1 : decide (t553 = false) = true := by simpa using c80))
          (try (have c80b2 : (t553 == false) = true := by simpa using c80))
          clear c80
          have H' := Aside0.mk H
          clear H
          try go_wp2_with (first | ((with_reducible refine gate_callee (f := 44) rfl ?_); refine goesL_ (some 79) rfl rfl Try.func44 (by kernel_rfl) rfl #[.slice A1 l1.length c1, .int .i64 a2] rfl MP_ ?_; (with_reducible refine (warrantorlaw09_value.calls _ _ l1 a2 t552 _ ?side1 ?side2 A65.out).mono ?_); (case side1 => exact sd_ (Kd.C_below HR1.out HB.out)); (case side2 => exact HC1.out); rintro e w' ⟨rfl, ⟨nd, rfl⟩⟩; refine ⟨_, rfl, ?_⟩))
          (try (rw [drewN_self w63]; generalize hq_ : World.drewN w63 _ = w63; have n0_ : Aside0 (Kd.R (Kd.int .i64) 3 w63 w.heap.size (fun k_ => some k_ ≠ (.slice Ao62 t546.length co62 : Value).ownBlock) (.slice Ao55 t540.length co55) t540) := ⟨by rw [← hq_]; exact (rd_ (Kd.R_mono HO542.out (fun _ hk => hk.2)))⟩; have n1_ : Aside0 (Kd.R (Kd.int .i64) 3 w63 w.heap.size (fun k_ => some k_ ≠ (.slice Ao55 t540.length co55 : Value).ownBlock) (.slice Ao62 t546.length co62) t546) := ⟨by rw [← hq_]; exact (rd_ (Kd.R_mono HO548.out (fun _ hk => hk.2)))⟩; have n2_ : Aside0 (w63.heap[gb532]? = some (.cells #[.int .i64 a0_0, .slice A0_1 l0_1.length c0_1] 24 (0, 0))) := ⟨by rw [← hq_]; exact (bk_ BK532.out)⟩; have n3_ : Aside0 (w63.heap[gb544]? = some (.cells #[.int .i64 t539, .slice Ao55 t540.length co55] 24 (0, 0))) := ⟨by rw [← hq_]; exact (bk_ BK544.out)⟩; have n4_ : Aside0 (w63.heap[gb550]? = some (.cells #[.int .i64 t545, .slice Ao62 t546.length co62] 24 (0, 0))) := ⟨by rw [← hq_]; exact (bk_ BK550.out)⟩; have n5_ : Aside0 (Below w.heap.size w w63) := ⟨by rw [← hq_]; exact HB_⟩; clear HO542 HO548 BK532 BK544 BK550 HB hq_; have HO542 := n0_; have HO548 := n1_; have BK532 := n2_; have BK544 := n3_; have BK550 := n4_; have HB := n5_; clear n0_ n1_ n2_ n3_ n4_ n5_; (try (obtain ⟨hczu_gb532_0, hczu_gb532_1, hfzu_gb532_0, hfzu_gb532_1⟩ := cz2_ BK532; obtain ⟨hczu_gb544_0, hczu_gb544_1, hfzu_gb544_0, hfzu_gb544_1⟩ := cz2_ BK544; obtain ⟨hczu_gb550_0, hczu_gb550_1, hfzu_gb550_0, hfzu_gb550_1⟩ := cz2_ BK550))))
          first | (obtain ⟨w63, hq_⟩ : ∃ x, x = w63.drewN nd := ⟨_, rfl⟩; rw [← hq_]; have q0_ := Aside0.mk (Kd.R_drewN HO542.out nd); rw [← hq_] at q0_; have q1_ := Aside0.mk (Kd.R_drewN HO548.out nd); rw [← hq_] at q1_; have q2_ := Aside0.mk (blk_drewN BK532.out nd); rw [← hq_] at q2_; have q3_ := Aside0.mk (blk_drewN BK544.out nd); rw [← hq_] at q3_; have q4_ := Aside0.mk (blk_drewN BK550.out nd); rw [← hq_] at q4_; have q5_ := Aside0.mk (pw_below_drewN HB.out nd); rw [← hq_] at q5_; clear HO542; clear HO548; clear BK532; clear BK544; clear BK550; clear HB; have HO542 := q0_; have HO548 := q1_; have BK532 := q2_; have BK544 := q3_; have BK550 := q4_; have HB := q5_; clear hq_ q0_ q1_ q2_ q3_ q4_ q5_) | skip
          have n_ := a_ (Aside0.mk (Kd.R_drew HO542.out)) (a_ (Aside0.mk (Kd.R_drew HO548.out)) (a_ (Aside0.mk (blk_drew BK532.out)) (a_ (Aside0.mk (blk_drew BK544.out)) (a_ (Aside0.mk (blk_drew BK550.out)) (Aside0.mk (below_drew1 HB.out))))))
          clear HO542 HO548 BK532 BK544 BK550 HB
          obtain ⟨HO542, HO548, BK532, BK544, BK550, HB⟩ := n_
          refine start_ (n := 20) (S := fun w' => w'.cell? ⟨gb550, 0, none⟩ = some (.int .i64 t545) ∧ w'.cell? ⟨gb550, 1, none⟩ = some (.slice Ao62 t546.length co62)) (ds := []) #[false, false, false, false, false, false, false, false, false, false, false, false, false, false, false, false, false, false, false, false] (by kernel_rfl) rfl rfl ⟨(blk_cell BK550.out 0).trans rfl, (blk_cell BK550.out 1).trans rfl⟩ (fun hHeld => ?_); refine with_tabW warrantorlaw09_ZoneSteps.tab9 warrantorlaw09_ZoneSteps.bits9 (fun HT_ HW_ => ?_)
          generalize w63.drew = w81 at HO542 HO548 BK532 BK544 BK550 HB hHeld ⊢
          refine pu_ 1 (some 83) ?_
          refine pu_ 3 (some 85) ?_
          refine take_ (i := 0) (N := some 82) (v := ?_) (a' := ?_) #[true, true, false, true, false, false, false, false, false, false, false, false, false, false, false, false, false, false, false, false] rfl rfl (take_ofW HT_.out HW_.out (by kernel_rfl)) (fun _ _ _ h => h) (Or.inl ⟨by rfl, ?_⟩) hHeld ?_ ?_
          rotate_left
          · rintro w' ⟨s0, s1⟩
            go_simp
            with_reducible rfl
          rotate_left
          · exact AP_
          refine on_ 2 (some 84) (fun K hK => ?_)
          refine goes_ Try.func45 (by kernel_rfl) rfl #[.agg #[.int .i64 t545, .slice Ao62 t546.length co62], .slice A1 l1.length c1] (by rfl) rfl rfl MP_ ?_
          with_reducible refine (dbm_Has.calls kj5 t545 _ _ t546 _ _ l1 t553 _ ?side1 ?side2 ?side3 ?side4 A66.out).mono ?_
          (case side1 => repeat (first | exact (Kd.R_reads' HO548.out).2.2 | (with_reducible refine Kd.C_alloc ?_ _) | (with_reducible refine Kd.C_drewN ?_ _) | (with_reducible refine Kd.C_drew ?_)))
          (case side2 => exact (Kd.R_reads' HO548.out).2.1)
          (case side3 => exact sd_ (Kd.C_below HR1.out HB.out))
          (case side4 => exact HC1.out)
          rintro e w82 ⟨rfl, hb⟩
          refine ⟨_, rfl, ?_⟩
          have n_ := a_ (rb_ HO542 hb) (a_ (rb_ HO548 hb) (a_ (bb_ BK532 hb) (a_ (bb_ BK544 hb) (a_ (bb_ BK550 hb) (bs_ HB hb)))))
          clear HO542 HO548 BK532 BK544 BK550 HB
          obtain ⟨HO542, HO548, BK532, BK544, BK550, HB⟩ := n_
          (try clear hb)
          (try clear hb2)
          (try clear hk)
          (try clear hi)
          refine hK.out _ _ ⟨(blk_cell BK550.out 0).trans rfl, (blk_cell BK550.out 1).trans rfl⟩ (fun hHeld => ?_)
          clear hK K
          refine nm_ ?_
          refine on_ 4 (some 86) (fun K hK => ?_)
          refine goes_ Try.func43 (by kernel_rfl) rfl #[.int .i64 (wrap64 (t552 - a4))] (by rfl) rfl rfl MP_ ?_
          with_reducible refine (warrantorref06_Is.calls (wrap64 (t552 - a4)) true _ A67.out).mono ?_
          rintro e w' ⟨rfl, ⟨nd, rfl⟩⟩
          refine ⟨_, rfl, ?_⟩
          refine hK.out _ _ ⟨(blk_cell BK550.out 0).trans rfl, (blk_cell BK550.out 1).trans rfl⟩ (fun hHeld => ?_)
          clear hK K
          refine nm_ ?_
          refine pu_ 5 (some 87) ?_
          refine pu_ 6 (some 88) ?_
          refine pu_ 7 (some 89) ?_
          refine on_ 8 (some 90) (fun K hK => ?_)
          refine goes_ Try.func44 (by kernel_rfl) rfl #[.slice A1 l1.length c1, .int .i64 a2] (by rfl) rfl rfl MP_ ?_
          with_reducible refine (warrantorlaw09_value.calls _ _ l1 a2 t555 _ ?side1 ?side2 A69.out).mono ?_
          (case side1 => repeat (first | exact (Kd.C_below HR1.out HB_) | (with_reducible refine Kd.C_alloc ?_ _) | (with_reducible refine Kd.C_drewN ?_ _) | (with_reducible refine Kd.C_drew ?_)))
          (case side2 => exact HC1.out)
          rintro e w' ⟨rfl, ⟨nd, rfl⟩⟩
          refine ⟨_, rfl, ?_⟩
          refine hK.out _ _ ⟨(blk_cell BK550.out 0).trans rfl, (blk_cell BK550.out 1).trans rfl⟩ (fun hHeld => ?_)
          clear hK K
          refine nm_ ?_
          refine on_ 9 (some 91) (fun K hK => ?_)
          refine goes_ Try.func43 (by kernel_rfl) rfl #[.int .i64 t555] (by rfl) rfl rfl MP_ ?_
          with_reducible refine (warrantorref06_Is.calls t555 false _ A70.out).mono ?_
          rintro e w' ⟨rfl, ⟨nd, rfl⟩⟩
          refine ⟨_, rfl, ?_⟩
          refine hK.out _ _ ⟨(blk_cell BK550.out 0).trans rfl, (blk_cell BK550.out 1).trans rfl⟩ (fun hHeld => ?_)
          clear hK K
          refine nm_ ?_
          refine pu_ 10 (some 92) ?_
          refine pu_ 11 (some 93) ?_
          refine pv_ 12 (some 94) ?_
          refine pv_ 13 (some 95) ?_
          refine pv_ 14 (some 96) ?_
          refine pv_ 15 (some 97) ?_
          refine pv_ 16 (some 98) ?_
          refine pv_ 17 (some 99) ?_
          refine pu_ 18 (some 100) ?_
          refine pu_ 19 (some 101) ?_
          refine done_ (done_of HT_.out (by kernel_rfl)) ?_
          try go_wp2
          go_meet
          case rel => exact ⟨_, H', ⟨by have := HJ5.out; first | omega | exact Nat.le_refl _⟩, ⟨by (with_reducible repeat (first | apply Kd.R_alloc | apply Kd.R_drewN | apply Kd.R_drew)); exact Kd.R_mono HO542.out (fun _ hk => by first | exact hk.2 | exact hk | exact hk.1 | exact hk.2 | exact hk.1.1 | exact hk.1.2)⟩, ⟨by (with_reducible repeat (first | apply Kd.R_alloc | apply Kd.R_drewN | apply Kd.R_drew)); exact Kd.R_mono HO548.out (fun _ hk => by first | exact hk.2 | exact hk | exact hk.1 | exact hk.2 | exact hk.1.1 | exact hk.1.2)⟩, ⟨by (with_reducible repeat (first | refine blk_drewN ?_ _ | refine blk_drew ?_ | refine blk_alloc ?_ _)); exact BK532.out⟩, ⟨by (with_reducible repeat (first | refine blk_drewN ?_ _ | refine blk_drew ?_ | refine blk_alloc ?_ _)); exact BK544.out⟩, ⟨by (with_reducible repeat (first | refine blk_drewN ?_ _ | refine blk_drew ?_ | refine blk_alloc ?_ _)); exact BK550.out⟩, ⟨HB_⟩⟩
        subst c71
        replace H := ps1_ H
        replace H := bd_ H
        obtain ⟨t557, A72, H⟩ := H
        (try dsimp only at H)
        replace H := bd_ H
        obtain ⟨t560, A73, H⟩ := H
        (try dsimp only at H)
        by_cases c74 : (t553 != t560) = true
        · rw [if_pos c74] at H
          exact absurd H (by simp)
        rw [if_neg c74] at H
        have c74b0 : (t553 != t560) = false := by simpa using c74
        (try (have c74b1 : decide (t553 = t560) = true := by simpa using c74))
        (try (have c74b2 : (t553 == t560) = true := by simpa using c74))
        clear c74
        have H' := Aside0.mk H
        clear H
        try go_wp2_with (first | ((with_reducible refine gate_callee (f := 44) rfl ?_); refine goesL_ (some 79) rfl rfl Try.func44 (by kernel_rfl) rfl #[.slice A1 l1.length c1, .int .i64 a2] rfl MP_ ?_; (with_reducible refine (warrantorlaw09_value.calls _ _ l1 a2 t552 _ ?side1 ?side2 A65.out).mono ?_); (case side1 => exact sd_ (Kd.C_below HR1.out HB.out)); (case side2 => exact HC1.out); rintro e w' ⟨rfl, ⟨nd, rfl⟩⟩; refine ⟨_, rfl, ?_⟩))
        (try (rw [drewN_self w63]; generalize hq_ : World.drewN w63 _ = w63; have n0_ : Aside0 (Kd.R (Kd.int .i64) 3 w63 w.heap.size (fun k_ => some k_ ≠ (.slice Ao62 t546.length co62 : Value).ownBlock) (.slice Ao55 t540.length co55) t540) := ⟨by rw [← hq_]; exact (rd_ (Kd.R_mono HO542.out (fun _ hk => hk.2)))⟩; have n1_ : Aside0 (Kd.R (Kd.int .i64) 3 w63 w.heap.size (fun k_ => some k_ ≠ (.slice Ao55 t540.length co55 : Value).ownBlock) (.slice Ao62 t546.length co62) t546) := ⟨by rw [← hq_]; exact (rd_ (Kd.R_mono HO548.out (fun _ hk => hk.2)))⟩; have n2_ : Aside0 (w63.heap[gb532]? = some (.cells #[.int .i64 a0_0, .slice A0_1 l0_1.length c0_1] 24 (0, 0))) := ⟨by rw [← hq_]; exact (bk_ BK532.out)⟩; have n3_ : Aside0 (w63.heap[gb544]? = some (.cells #[.int .i64 t539, .slice Ao55 t540.length co55] 24 (0, 0))) := ⟨by rw [← hq_]; exact (bk_ BK544.out)⟩; have n4_ : Aside0 (w63.heap[gb550]? = some (.cells #[.int .i64 t545, .slice Ao62 t546.length co62] 24 (0, 0))) := ⟨by rw [← hq_]; exact (bk_ BK550.out)⟩; have n5_ : Aside0 (Below w.heap.size w w63) := ⟨by rw [← hq_]; exact HB_⟩; clear HO542 HO548 BK532 BK544 BK550 HB hq_; have HO542 := n0_; have HO548 := n1_; have BK532 := n2_; have BK544 := n3_; have BK550 := n4_; have HB := n5_; clear n0_ n1_ n2_ n3_ n4_ n5_; (try (obtain ⟨hczu_gb532_0, hczu_gb532_1, hfzu_gb532_0, hfzu_gb532_1⟩ := cz2_ BK532; obtain ⟨hczu_gb544_0, hczu_gb544_1, hfzu_gb544_0, hfzu_gb544_1⟩ := cz2_ BK544; obtain ⟨hczu_gb550_0, hczu_gb550_1, hfzu_gb550_0, hfzu_gb550_1⟩ := cz2_ BK550))))
        first | (obtain ⟨w63, hq_⟩ : ∃ x, x = w63.drewN nd := ⟨_, rfl⟩; rw [← hq_]; have q0_ := Aside0.mk (Kd.R_drewN HO542.out nd); rw [← hq_] at q0_; have q1_ := Aside0.mk (Kd.R_drewN HO548.out nd); rw [← hq_] at q1_; have q2_ := Aside0.mk (blk_drewN BK532.out nd); rw [← hq_] at q2_; have q3_ := Aside0.mk (blk_drewN BK544.out nd); rw [← hq_] at q3_; have q4_ := Aside0.mk (blk_drewN BK550.out nd); rw [← hq_] at q4_; have q5_ := Aside0.mk (pw_below_drewN HB.out nd); rw [← hq_] at q5_; clear HO542; clear HO548; clear BK532; clear BK544; clear BK550; clear HB; have HO542 := q0_; have HO548 := q1_; have BK532 := q2_; have BK544 := q3_; have BK550 := q4_; have HB := q5_; clear hq_ q0_ q1_ q2_ q3_ q4_ q5_) | skip
        have n_ := a_ (Aside0.mk (Kd.R_drew HO542.out)) (a_ (Aside0.mk (Kd.R_drew HO548.out)) (a_ (Aside0.mk (blk_drew BK532.out)) (a_ (Aside0.mk (blk_drew BK544.out)) (a_ (Aside0.mk (blk_drew BK550.out)) (Aside0.mk (below_drew1 HB.out))))))
        clear HO542 HO548 BK532 BK544 BK550 HB
        obtain ⟨HO542, HO548, BK532, BK544, BK550, HB⟩ := n_
        refine start_ (n := 20) (S := fun w' => w'.cell? ⟨gb550, 0, none⟩ = some (.int .i64 t545) ∧ w'.cell? ⟨gb550, 1, none⟩ = some (.slice Ao62 t546.length co62) ∧ w'.cell? ⟨gb532, 0, none⟩ = some (.int .i64 a0_0) ∧ w'.cell? ⟨gb532, 1, none⟩ = some (.slice A0_1 l0_1.length c0_1)) (ds := []) #[false, false, false, false, false, false, false, false, false, false, false, false, false, false, false, false, false, false, false, false] (by kernel_rfl) rfl rfl ⟨(blk_cell BK550.out 0).trans rfl, (blk_cell BK550.out 1).trans rfl, (blk_cell BK532.out 0).trans rfl, (blk_cell BK532.out 1).trans rfl⟩ (fun hHeld => ?_); refine with_tabW warrantorlaw09_ZoneSteps.tab9 warrantorlaw09_ZoneSteps.bits9 (fun HT_ HW_ => ?_)
        generalize w63.drew = w75 at HO542 HO548 BK532 BK544 BK550 HB hHeld ⊢
        refine pu_ 1 (some 83) ?_
        refine pu_ 3 (some 85) ?_
        refine take_ (i := 0) (N := some 82) (v := ?_) (a' := ?_) #[true, true, false, true, false, false, false, false, false, false, false, false, false, false, false, false, false, false, false, false] rfl rfl (take_ofW HT_.out HW_.out (by kernel_rfl)) (fun _ _ _ h => h) (Or.inl ⟨by rfl, ?_⟩) hHeld ?_ ?_
        rotate_left
        · rintro w' ⟨s0, s1, s2, s3⟩
          go_simp
          with_reducible rfl
        rotate_left
        · exact AP_
        refine on_ 2 (some 84) (fun K hK => ?_)
        refine goes_ Try.func45 (by kernel_rfl) rfl #[.agg #[.int .i64 t545, .slice Ao62 t546.length co62], .slice A1 l1.length c1] (by rfl) rfl rfl MP_ ?_
        with_reducible refine (dbm_Has.calls kj5 t545 _ _ t546 _ _ l1 t553 _ ?side1 ?side2 ?side3 ?side4 A66.out).mono ?_
        (case side1 => repeat (first | exact (Kd.R_reads' HO548.out).2.2 | (with_reducible refine Kd.C_alloc ?_ _) | (with_reducible refine Kd.C_drewN ?_ _) | (with_reducible refine Kd.C_drew ?_)))
        (case side2 => exact (Kd.R_reads' HO548.out).2.1)
        (case side3 => exact sd_ (Kd.C_below HR1.out HB.out))
        (case side4 => exact HC1.out)
        rintro e w76 ⟨rfl, hb⟩
        refine ⟨_, rfl, ?_⟩
        have n_ := a_ (rb_ HO542 hb) (a_ (rb_ HO548 hb) (a_ (bb_ BK532 hb) (a_ (bb_ BK544 hb) (a_ (bb_ BK550 hb) (bs_ HB hb)))))
        clear HO542 HO548 BK532 BK544 BK550 HB
        obtain ⟨HO542, HO548, BK532, BK544, BK550, HB⟩ := n_
        (try clear hb)
        (try clear hb2)
        (try clear hk)
        (try clear hi)
        refine hK.out _ _ ⟨(blk_cell BK550.out 0).trans rfl, (blk_cell BK550.out 1).trans rfl, (blk_cell BK532.out 0).trans rfl, (blk_cell BK532.out 1).trans rfl⟩ (fun hHeld => ?_)
        clear hK K
        refine nm_ ?_
        refine on_ 4 (some 86) (fun K hK => ?_)
        refine goes_ Try.func43 (by kernel_rfl) rfl #[.int .i64 (wrap64 (t552 - a4))] (by rfl) rfl rfl MP_ ?_
        with_reducible refine (warrantorref06_Is.calls (wrap64 (t552 - a4)) true _ A67.out).mono ?_
        rintro e w' ⟨rfl, ⟨nd, rfl⟩⟩
        refine ⟨_, rfl, ?_⟩
        refine hK.out _ _ ⟨(blk_cell BK550.out 0).trans rfl, (blk_cell BK550.out 1).trans rfl, (blk_cell BK532.out 0).trans rfl, (blk_cell BK532.out 1).trans rfl⟩ (fun hHeld => ?_)
        clear hK K
        refine nm_ ?_
        refine pu_ 5 (some 87) ?_
        refine pu_ 6 (some 88) ?_
        refine pu_ 7 (some 89) ?_
        refine on_ 8 (some 90) (fun K hK => ?_)
        refine goes_ Try.func44 (by kernel_rfl) rfl #[.slice A1 l1.length c1, .int .i64 a2] (by rfl) rfl rfl MP_ ?_
        with_reducible refine (warrantorlaw09_value.calls _ _ l1 a2 t555 _ ?side1 ?side2 A69.out).mono ?_
        (case side1 => repeat (first | exact (Kd.C_below HR1.out HB_) | (with_reducible refine Kd.C_alloc ?_ _) | (with_reducible refine Kd.C_drewN ?_ _) | (with_reducible refine Kd.C_drew ?_)))
        (case side2 => exact HC1.out)
        rintro e w' ⟨rfl, ⟨nd, rfl⟩⟩
        refine ⟨_, rfl, ?_⟩
        refine hK.out _ _ ⟨(blk_cell BK550.out 0).trans rfl, (blk_cell BK550.out 1).trans rfl, (blk_cell BK532.out 0).trans rfl, (blk_cell BK532.out 1).trans rfl⟩ (fun hHeld => ?_)
        clear hK K
        refine nm_ ?_
        refine on_ 9 (some 91) (fun K hK => ?_)
        refine goes_ Try.func43 (by kernel_rfl) rfl #[.int .i64 t555] (by rfl) rfl rfl MP_ ?_
        with_reducible refine (warrantorref06_Is.calls t555 true _ A70.out).mono ?_
        rintro e w' ⟨rfl, ⟨nd, rfl⟩⟩
        refine ⟨_, rfl, ?_⟩
        refine hK.out _ _ ⟨(blk_cell BK550.out 0).trans rfl, (blk_cell BK550.out 1).trans rfl, (blk_cell BK532.out 0).trans rfl, (blk_cell BK532.out 1).trans rfl⟩ (fun hHeld => ?_)
        clear hK K
        refine nm_ ?_
        refine pu_ 10 (some 92) ?_
        refine pu_ 11 (some 93) ?_
        refine pu_ 13 (some 95) ?_
        refine pu_ 14 (some 96) ?_
        refine pu_ 15 (some 97) ?_
        refine take_ (i := 12) (N := some 94) (v := ?_) (a' := ?_) #[true, true, true, true, true, true, true, true, true, true, true, true, true, true, true, true, false, false, false, false] rfl rfl (take_ofW HT_.out HW_.out (by kernel_rfl)) (fun _ _ _ h => h) (Or.inl ⟨by rfl, ?_⟩) hHeld ?_ ?_
        rotate_left
        · rintro w' ⟨s0, s1, s2, s3⟩
          go_simp
          with_reducible rfl
        rotate_left
        · exact AP_
        refine on_ 16 (some 98) (fun K hK => ?_)
        refine goes_ Try.func46 (by kernel_rfl) rfl #[.slice A1 l1.length c1, .int .i64 a2, .int .i64 (wrap64 (t552 - a4))] (by rfl) rfl rfl MP_ ?_
        with_reducible refine (warrantorlaw09_with.calls _ _ l1 a2 (wrap64 (t552 - a4)) t557 _ ?side1 ?side2 A72.out).mono ?_
        (case side1 => repeat (first | exact (Kd.C_below HR1.out HB_) | (with_reducible refine Kd.C_alloc ?_ _) | (with_reducible refine Kd.C_drewN ?_ _) | (with_reducible refine Kd.C_drew ?_)))
        (case side2 => exact HC1.out)
        rintro e w77 ⟨v558, rfl, ho0, hb⟩
        refine ⟨_, rfl, ?_⟩
        have n_ := a_ (Aside0.mk (Kd.R_elder' (rd_ HO542.out) (Kd.R_base ho0) hb)) (a_ (Aside0.mk (Kd.R_elder' (rd_ HO548.out) (Kd.R_base ho0) hb)) (a_ (Aside0.mk (Kd.R_lower (Kd.R_new' (Kd.R_new' ho0 (Kd.R_lt (rd_ HO542.out))) (Kd.R_lt (rd_ HO548.out))) (below_size HB_))) (a_ (bb_ BK532 hb) (a_ (bb_ BK544 hb) (a_ (bb_ BK550 hb) (bs_ HB hb))))))
        clear HO542 HO548 BK532 BK544 BK550 HB
        obtain ⟨HO542, HO548, HO559, BK532, BK544, BK550, HB⟩ := n_
        (try clear hb)
        (try clear hb2)
        (try clear hk)
        (try clear hi)
        (try clear ho0)
        obtain ⟨Ao78, co78, eo78⟩ := Kd.R_slice HO559.out
        (first | subst eo78 | (injection eo78 with f1_ f2_ f3_; have f4_ := f1_.symm; have f5_ := f3_.symm; clear f1_ f2_ f3_; subst f4_; subst f5_))
        refine hK.out _ _ ⟨(blk_cell BK550.out 0).trans rfl, (blk_cell BK550.out 1).trans rfl, (blk_cell BK532.out 0).trans rfl, (blk_cell BK532.out 1).trans rfl⟩ (fun hHeld => ?_)
        clear hK K
        refine nm_ ?_
        refine on_ 17 (some 99) (fun K hK => ?_)
        refine goes_ Try.func45 (by kernel_rfl) rfl #[.agg #[.int .i64 a0_0, .slice A0_1 l0_1.length c0_1], .slice Ao78 t557.length co78] (by rfl) rfl rfl MP_ ?_
        with_reducible refine (dbm_Has.calls kj5 a0_0 _ _ l0_1 _ _ t557 t560 _ ?side1 ?side2 ?side3 ?side4 A73.out).mono ?_
        (case side1 => exact sd_ (Kd.C_below HR0_1.out HB.out))
        (case side2 => exact HC0_1.out)
        (case side3 => repeat (first | exact (Kd.R_reads' HO559.out).2.2 | (with_reducible refine Kd.C_alloc ?_ _) | (with_reducible refine Kd.C_drewN ?_ _) | (with_reducible refine Kd.C_drew ?_)))
        (case side4 => exact (Kd.R_reads' HO559.out).2.1)
        rintro e w79 ⟨rfl, hb⟩
        refine ⟨_, rfl, ?_⟩
        have n_ := a_ (rb_ HO542 hb) (a_ (rb_ HO548 hb) (a_ (rb_ HO559 hb) (a_ (bb_ BK532 hb) (a_ (bb_ BK544 hb) (a_ (bb_ BK550 hb) (bs_ HB hb))))))
        clear HO542 HO548 HO559 BK532 BK544 BK550 HB
        obtain ⟨HO542, HO548, HO559, BK532, BK544, BK550, HB⟩ := n_
        (try clear hb)
        (try clear hb2)
        (try clear hk)
        (try clear hi)
        refine hK.out _ _ ⟨(blk_cell BK550.out 0).trans rfl, (blk_cell BK550.out 1).trans rfl, (blk_cell BK532.out 0).trans rfl, (blk_cell BK532.out 1).trans rfl⟩ (fun hHeld => ?_)
        clear hK K
        refine nm_ ?_
        refine pu_ 18 (some 100) ?_
        refine pu_ 19 (some 101) ?_
        refine done_ (done_of HT_.out (by kernel_rfl)) ?_
        try go_wp2
        go_meet
        case rel => exact ⟨_, H', ⟨by have := HJ5.out; first | omega | exact Nat.le_refl _⟩, ⟨by (with_reducible repeat (first | apply Kd.R_alloc | apply Kd.R_drewN | apply Kd.R_drew)); exact Kd.R_mono HO542.out (fun _ hk => by first | exact hk.1.2 | exact hk | exact hk.1 | exact hk.2 | exact hk.1.1 | exact hk.1.2)⟩, ⟨by (with_reducible repeat (first | apply Kd.R_alloc | apply Kd.R_drewN | apply Kd.R_drew)); exact Kd.R_mono HO548.out (fun _ hk => by first | exact hk.1.2 | exact hk | exact hk.1 | exact hk.2 | exact hk.1.1 | exact hk.1.2)⟩, ⟨by (with_reducible repeat (first | refine blk_drewN ?_ _ | refine blk_drew ?_ | refine blk_alloc ?_ _)); exact BK532.out⟩, ⟨by (with_reducible repeat (first | refine blk_drewN ?_ _ | refine blk_drew ?_ | refine blk_alloc ?_ _)); exact BK544.out⟩, ⟨by (with_reducible repeat (first | refine blk_drewN ?_ _ | refine blk_drew ?_ | refine blk_alloc ?_ _)); exact BK550.out⟩, ⟨HB_⟩⟩
      case rest =>
        clear HC49
        try clear c1
        try clear p2
        try clear c4
        try clear c6
        try clear p6
        try clear c7
        try clear c8
        try clear c9
        try clear c43
        try clear c44
        try clear c45
        try clear c46
        try clear c64
        try clear c64b0
        try clear c64b1
        try clear p64
        try clear c68
        try clear c71
        try clear c80
        try clear c80b0
        try clear c80b1
        try clear c80b2
        try clear c83
        try clear c83b0
        try clear c83b1
        try clear c83b2
        try clear c87
        try clear c90
        try clear c90b0
        try clear c90b1
        try clear c91
        try clear c92
        try clear c95
        try clear c96
        try clear hcz93_0
        try clear hcz93_1
        try clear hcz97_0
        try clear hcz97_1
        try clear hfz93_0
        try clear hfz93_1
        try clear hfz97_0
        try clear hfz97_1
        obtain ⟨kq, HA, HJ48, HO_545001, HO_551001, BK532, BK544, BK550, HB⟩ := hcut
        cases kq with
        | zero => exact absurd HA.out (by simp [warrantorlaw09_ZoneSteps.j1])
        | succ kj48 =>
          have H := HA.out
          clear HA
          simp only [warrantorlaw09_ZoneSteps.j1] at H
          have HC99 := Aside0.mk H
          clear H
          go_upto_region 13 with (fail)
          go_cut [130] (fun v130 wc => ∃ (kq : Nat) (x130_98 : Bool), v130 = .bool x130_98 ∧ Aside0 (warrantorlaw09_ZoneSteps.j2 kq l1 a2 x130_98 a0_0 l0_1 = some r) ∧ Aside0 (kq ≤ kj48) ∧ Aside0 (Kd.R (Kd.int .i64) 3 wc w.heap.size (fun k_ => some k_ ≠ ((.slice Ao62 t546.length co62) : Value).ownBlock) (.slice Ao55 t540.length co55) t540) ∧ Aside0 (Kd.R (Kd.int .i64) 3 wc w.heap.size (fun k_ => some k_ ≠ ((.slice Ao55 t540.length co55) : Value).ownBlock) (.slice Ao62 t546.length co62) t546) ∧ Aside0 (wc.heap[gb532]? = some (.cells #[.int .i64 a0_0, (.slice A0_1 l0_1.length c0_1)] 24 (0, 0))) ∧ Aside0 (wc.heap[gb544]? = some (.cells #[.int .i64 t539, (.slice Ao55 t540.length co55)] 24 (0, 0))) ∧ Aside0 (wc.heap[gb550]? = some (.cells #[.int .i64 t545, (.slice Ao62 t546.length co62)] 24 (0, 0))) ∧ Aside0 (Below w.heap.size w wc))
          case first =>
            have H := HC99.out
            clear HC99
            replace H := bd_ H
            obtain ⟨t564, A100, H⟩ := H
            (try dsimp only at H)
            by_cases c101 : t564 = true
            · subst c101
              replace H := ps1_ H
              have H' := Aside0.mk H
              clear H
              have hnb102 := NB544_532.out
              have hnc102 := NB532_544.out
              have hnb103 := NB544_550.out
              have hnc103 := NB550_544.out
              obtain ⟨hcz104_0, hcz104_1, hfz104_0, hfz104_1⟩ := cz2_ BK544
              go_wp2_with (first | ((with_reducible refine gate_callee (f := 45) rfl ?_); refine goesL_ (some 118) rfl rfl Try.func45 (by kernel_rfl) rfl #[.agg #[.int .i64 t539, .slice Ao55 t540.length co55], .slice A1 l1.length c1] rfl MP_ ?_; (with_reducible refine (dbm_Has.calls kj48 t539 _ _ t540 _ _ l1 true _ ?side1 ?side2 ?side3 ?side4 A100.out).mono ?_); (case side1 => repeat (first | exact (Kd.R_reads' HO_545001.out).2.2 | (with_reducible refine Kd.C_alloc ?_ _) | (with_reducible refine Kd.C_drewN ?_ _) | (with_reducible refine Kd.C_drew ?_))); (case side2 => exact (Kd.R_reads' HO_545001.out).2.1); (case side3 => exact sd_ (Kd.C_below HR1.out HB.out)); (case side4 => exact HC1.out); rintro e w105 ⟨rfl, hb⟩; refine ⟨_, rfl, ?_⟩; have n_ := a_ (rb_ HO_545001 hb) (a_ (rb_ HO_551001 hb) (a_ (bb_ BK532 hb) (a_ (bb_ BK544 hb) (a_ (bb_ BK550 hb) (bs_ HB hb))))); clear HO_545001 HO_551001 BK532 BK544 BK550 HB; obtain ⟨HO_545001, HO_551001, BK532, BK544, BK550, HB⟩ := n_; (try clear hb); (try clear hb2); (try clear hk); (try clear hi)))
              go_meet
              case rel => exact ⟨_, (false), (by first | rfl | (simp; done) | (simp [*]; done)), H', ⟨by have := HJ5.out; have := HJ48.out; first | omega | exact Nat.le_refl _⟩, ⟨by (with_reducible repeat (first | apply Kd.R_alloc | apply Kd.R_drewN | apply Kd.R_drew)); exact HO_545001.out⟩, ⟨by (with_reducible repeat (first | apply Kd.R_alloc | apply Kd.R_drewN | apply Kd.R_drew)); exact HO_551001.out⟩, ⟨by (with_reducible repeat (first | refine blk_drewN ?_ _ | refine blk_drew ?_ | refine blk_alloc ?_ _)); exact BK532.out⟩, ⟨by (with_reducible repeat (first | refine blk_drewN ?_ _ | refine blk_drew ?_ | refine blk_alloc ?_ _)); exact BK544.out⟩, ⟨by (with_reducible repeat (first | refine blk_drewN ?_ _ | refine blk_drew ?_ | refine blk_alloc ?_ _)); exact BK550.out⟩, ⟨HB_⟩⟩
            replace c101 := Bool.eq_false_iff.mpr c101
            subst c101
            replace H := ng1_ H
            by_cases c106 : a2 = a3
            · rw [if_pos c106] at H
              have c106b0 : (a2 == a3) = true := beq_iff_eq.mpr c106
              have c106b1 : (a2 != a3) = false := bne_eq_false_iff_eq.mpr c106
              clear c106
              (first | rw [c106b0] | (simp only [i64_w, i32_w]; rw [c106b0]) | skip)
              have H' := Aside0.mk H
              clear H
              have hnb107 := NB544_532.out
              have hnc107 := NB532_544.out
              have hnb108 := NB544_550.out
              have hnc108 := NB550_544.out
              obtain ⟨hcz109_0, hcz109_1, hfz109_0, hfz109_1⟩ := cz2_ BK544
              go_wp2_with (first | ((with_reducible refine gate_callee (f := 45) rfl ?_); refine goesL_ (some 118) rfl rfl Try.func45 (by kernel_rfl) rfl #[.agg #[.int .i64 t539, .slice Ao55 t540.length co55], .slice A1 l1.length c1] rfl MP_ ?_; (with_reducible refine (dbm_Has.calls kj48 t539 _ _ t540 _ _ l1 false _ ?side1 ?side2 ?side3 ?side4 A100.out).mono ?_); (case side1 => repeat (first | exact (Kd.R_reads' HO_545001.out).2.2 | (with_reducible refine Kd.C_alloc ?_ _) | (with_reducible refine Kd.C_drewN ?_ _) | (with_reducible refine Kd.C_drew ?_))); (case side2 => exact (Kd.R_reads' HO_545001.out).2.1); (case side3 => exact sd_ (Kd.C_below HR1.out HB.out)); (case side4 => exact HC1.out); rintro e w110 ⟨rfl, hb⟩; refine ⟨_, rfl, ?_⟩; have n_ := a_ (rb_ HO_545001 hb) (a_ (rb_ HO_551001 hb) (a_ (bb_ BK532 hb) (a_ (bb_ BK544 hb) (a_ (bb_ BK550 hb) (bs_ HB hb))))); clear HO_545001 HO_551001 BK532 BK544 BK550 HB; obtain ⟨HO_545001, HO_551001, BK532, BK544, BK550, HB⟩ := n_; (try clear hb); (try clear hb2); (try clear hk); (try clear hi)))
              go_meet
              case rel => exact ⟨_, (true), (by first | rfl | (simp; done) | (simp [*]; done)), H', ⟨by have := HJ5.out; have := HJ48.out; first | omega | exact Nat.le_refl _⟩, ⟨by (with_reducible repeat (first | apply Kd.R_alloc | apply Kd.R_drewN | apply Kd.R_drew)); exact HO_545001.out⟩, ⟨by (with_reducible repeat (first | apply Kd.R_alloc | apply Kd.R_drewN | apply Kd.R_drew)); exact HO_551001.out⟩, ⟨by (with_reducible repeat (first | refine blk_drewN ?_ _ | refine blk_drew ?_ | refine blk_alloc ?_ _)); exact BK532.out⟩, ⟨by (with_reducible repeat (first | refine blk_drewN ?_ _ | refine blk_drew ?_ | refine blk_alloc ?_ _)); exact BK544.out⟩, ⟨by (with_reducible repeat (first | refine blk_drewN ?_ _ | refine blk_drew ?_ | refine blk_alloc ?_ _)); exact BK550.out⟩, ⟨HB_⟩⟩
            rw [if_neg c106] at H
            have c106b0 : (a2 == a3) = false := beq_eq_false_iff_ne.mpr c106
            have c106b1 : (a2 != a3) = true := bne_iff_ne.mpr c106
            (first | rw [c106b0] | (simp only [i64_w, i32_w]; rw [c106b0]) | skip)
            replace H := bd_ H
            obtain ⟨t565, A111, H⟩ := H
            (try dsimp only at H)
            have H' := Aside0.mk H
            clear H
            have hnb112 := NB544_532.out
            have hnc112 := NB532_544.out
            have hnb113 := NB544_550.out
            have hnc113 := NB550_544.out
            obtain ⟨hcz114_0, hcz114_1, hfz114_0, hfz114_1⟩ := cz2_ BK544
            go_wp2_with (first | ((with_reducible refine gate_callee (f := 45) rfl ?_); refine goesL_ (some 118) rfl rfl Try.func45 (by kernel_rfl) rfl #[.agg #[.int .i64 t539, .slice Ao55 t540.length co55], .slice A1 l1.length c1] rfl MP_ ?_; (with_reducible refine (dbm_Has.calls kj48 t539 _ _ t540 _ _ l1 false _ ?side1 ?side2 ?side3 ?side4 A100.out).mono ?_); (case side1 => repeat (first | exact (Kd.R_reads' HO_545001.out).2.2 | (with_reducible refine Kd.C_alloc ?_ _) | (with_reducible refine Kd.C_drewN ?_ _) | (with_reducible refine Kd.C_drew ?_))); (case side2 => exact (Kd.R_reads' HO_545001.out).2.1); (case side3 => exact sd_ (Kd.C_below HR1.out HB.out)); (case side4 => exact HC1.out); rintro e w115 ⟨rfl, hb⟩; refine ⟨_, rfl, ?_⟩; have n_ := a_ (rb_ HO_545001 hb) (a_ (rb_ HO_551001 hb) (a_ (bb_ BK532 hb) (a_ (bb_ BK544 hb) (a_ (bb_ BK550 hb) (bs_ HB hb))))); clear HO_545001 HO_551001 BK532 BK544 BK550 HB; obtain ⟨HO_545001, HO_551001, BK532, BK544, BK550, HB⟩ := n_; (try clear hb); (try clear hb2); (try clear hk); (try clear hi); have hnb116 := NB550_532.out; have hnc116 := NB532_550.out; obtain ⟨hcz117_0, hcz117_1, hfz117_0, hfz117_1⟩ := cz2_ BK550; (try clear A100)) | (go_at_call 45; (with_reducible refine (dbm_Has.calls kj48 t545 _ _ t546 _ _ l1 t565 _ ?side1 ?side2 ?side3 ?side4 A111.out).mono ?_); (case side1 => repeat (first | exact (Kd.R_reads' HO_551001.out).2.2 | (with_reducible refine Kd.C_alloc ?_ _) | (with_reducible refine Kd.C_drewN ?_ _) | (with_reducible refine Kd.C_drew ?_))); (case side2 => exact (Kd.R_reads' HO_551001.out).2.1); (case side3 => exact sd_ (Kd.C_below HR1.out HB.out)); (case side4 => exact HC1.out); rintro e w118 ⟨rfl, hb⟩; have n_ := a_ (rb_ HO_545001 hb) (a_ (rb_ HO_551001 hb) (a_ (bb_ BK532 hb) (a_ (bb_ BK544 hb) (a_ (bb_ BK550 hb) (bs_ HB hb))))); clear HO_545001 HO_551001 BK532 BK544 BK550 HB; obtain ⟨HO_545001, HO_551001, BK532, BK544, BK550, HB⟩ := n_; (try clear hb); (try clear hb2); (try clear hk); (try clear hi)))
            go_meet
            case rel => exact ⟨_, (!t565), (by first | rfl | (simp; done) | (simp [*]; done)), H', ⟨by have := HJ5.out; have := HJ48.out; first | omega | exact Nat.le_refl _⟩, ⟨by (with_reducible repeat (first | apply Kd.R_alloc | apply Kd.R_drewN | apply Kd.R_drew)); exact HO_545001.out⟩, ⟨by (with_reducible repeat (first | apply Kd.R_alloc | apply Kd.R_drewN | apply Kd.R_drew)); exact HO_551001.out⟩, ⟨by (with_reducible repeat (first | refine blk_drewN ?_ _ | refine blk_drew ?_ | refine blk_alloc ?_ _)); exact BK532.out⟩, ⟨by (with_reducible repeat (first | refine blk_drewN ?_ _ | refine blk_drew ?_ | refine blk_alloc ?_ _)); exact BK544.out⟩, ⟨by (with_reducible repeat (first | refine blk_drewN ?_ _ | refine blk_drew ?_ | refine blk_alloc ?_ _)); exact BK550.out⟩, ⟨HB_⟩⟩
          case rest =>
            clear HC99
            try clear c1
            try clear p2
            try clear c4
            try clear c6
            try clear p6
            try clear c7
            try clear c8
            try clear c9
            try clear c10
            try clear c11
            try clear c43
            try clear c44
            try clear c45
            try clear c46
            try clear c64
            try clear c64b0
            try clear c64b1
            try clear p64
            try clear c68
            try clear c71
            try clear c80
            try clear c80b0
            try clear c80b1
            try clear c80b2
            try clear c83
            try clear c83b0
            try clear c83b1
            try clear c83b2
            try clear c87
            try clear c90
            try clear c90b0
            try clear c90b1
            try clear c91
            try clear c92
            try clear c95
            try clear c96
            try clear c101
            try clear c102
            try clear c103
            try clear c106
            try clear c106b0
            try clear c106b1
            try clear c107
            try clear c108
            try clear c112
            try clear c113
            try clear c116
            try clear hcz104_0
            try clear hcz104_1
            try clear hcz109_0
            try clear hcz109_1
            try clear hcz114_0
            try clear hcz114_1
            try clear hcz117_0
            try clear hcz117_1
            try clear hcz93_0
            try clear hcz93_1
            try clear hcz97_0
            try clear hcz97_1
            try clear hfz104_0
            try clear hfz104_1
            try clear hfz109_0
            try clear hfz109_1
            try clear hfz114_0
            try clear hfz114_1
            try clear hfz117_0
            try clear hfz117_1
            try clear hfz93_0
            try clear hfz93_1
            try clear hfz97_0
            try clear hfz97_1
            try clear p2
            try clear p6
            try clear p64
            obtain ⟨kq, x130_98, rfl, HA, HJ98, HO_545001, HO_551001, BK532, BK544, BK550, HB⟩ := hcut
            cases kq with
            | zero => exact absurd HA.out (by simp [warrantorlaw09_ZoneSteps.j2])
            | succ kj98 =>
              have H := HA.out
              clear HA
              simp only [warrantorlaw09_ZoneSteps.j2] at H
              by_cases c119 : x130_98 = true
              · subst c119
                replace H := ps1_ H
                obtain rfl := Option.some.inj H
                go_wp2
                go_ret
                exact ⟨by first | rfl | (simp [errW_none, errW_some] <;> rfl) | (simp [*, errW_none, errW_some] <;> rfl), HB_⟩
              replace c119 := Bool.eq_false_iff.mpr c119
              subst c119
              replace H := ng1_ H
              have H' := Aside0.mk H
              clear H
              go_wp2
              go_loopg [16, 17] kj98 (fun kq v16 v17 w' => ∃ (x16_4 : Int) (x17_4 : Int), v16 = .int .i64 x16_4 ∧ v17 = .int .i64 x17_4 ∧ Aside0 (warrantorlaw09_ZoneSteps.l0 kq l1 a2 x16_4 x17_4 a0_0 l0_1 = some r) ∧ Aside0 (kq ≤ kj98) ∧ Aside0 (Kd.R (Kd.int .i64) 3 w' w.heap.size (fun k_ => some k_ ≠ ((.slice Ao62 t546.length co62) : Value).ownBlock) (.slice Ao55 t540.length co55) t540) ∧ Aside0 (Kd.R (Kd.int .i64) 3 w' w.heap.size (fun k_ => some k_ ≠ ((.slice Ao55 t540.length co55) : Value).ownBlock) (.slice Ao62 t546.length co62) t546) ∧ Aside0 (w'.heap[gb532]? = some (.cells #[.int .i64 a0_0, (.slice A0_1 l0_1.length c0_1)] 24 (0, 0))) ∧ Aside0 (w'.heap[gb544]? = some (.cells #[.int .i64 t539, (.slice Ao55 t540.length co55)] 24 (0, 0))) ∧ Aside0 (w'.heap[gb550]? = some (.cells #[.int .i64 t545, (.slice Ao62 t546.length co62)] 24 (0, 0))) ∧ Aside0 (Below w.heap.size w w'))
              case atStart => exact ⟨((-1099511627776)), (0), (by first | rfl | (simp; done) | (simp [*]; done)), (by first | rfl | (simp; done) | (simp [*]; done)), H', ⟨Nat.le_refl _⟩, ⟨by (with_reducible repeat (first | apply Kd.R_alloc | apply Kd.R_drewN | apply Kd.R_drew)); exact HO_545001.out⟩, ⟨by (with_reducible repeat (first | apply Kd.R_alloc | apply Kd.R_drewN | apply Kd.R_drew)); exact HO_551001.out⟩, ⟨by (with_reducible repeat (first | refine blk_drewN ?_ _ | refine blk_drew ?_ | refine blk_alloc ?_ _)); exact BK532.out⟩, ⟨by (with_reducible repeat (first | refine blk_drewN ?_ _ | refine blk_drew ?_ | refine blk_alloc ?_ _)); exact BK544.out⟩, ⟨by (with_reducible repeat (first | refine blk_drewN ?_ _ | refine blk_drew ?_ | refine blk_alloc ?_ _)); exact BK550.out⟩, ⟨HB_⟩⟩
              case round =>
                clear H'
                try clear c1
                try clear p2
                try clear c4
                try clear c6
                try clear p6
                try clear c7
                try clear c8
                try clear c9
                try clear c10
                try clear c11
                try clear c43
                try clear c44
                try clear c45
                try clear c46
                try clear c64
                try clear c64b0
                try clear c64b1
                try clear p64
                try clear c68
                try clear c71
                try clear c80
                try clear c80b0
                try clear c80b1
                try clear c80b2
                try clear c83
                try clear c83b0
                try clear c83b1
                try clear c83b2
                try clear c87
                try clear c90
                try clear c90b0
                try clear c90b1
                try clear c91
                try clear c92
                try clear c95
                try clear c96
                try clear c101
                try clear c102
                try clear c103
                try clear c106
                try clear c106b0
                try clear c106b1
                try clear c107
                try clear c108
                try clear c112
                try clear c113
                try clear c116
                try clear c119
                try clear hcz104_0
                try clear hcz104_1
                try clear hcz109_0
                try clear hcz109_1
                try clear hcz114_0
                try clear hcz114_1
                try clear hcz117_0
                try clear hcz117_1
                try clear hcz93_0
                try clear hcz93_1
                try clear hcz97_0
                try clear hcz97_1
                try clear hfz104_0
                try clear hfz104_1
                try clear hfz109_0
                try clear hfz109_1
                try clear hfz114_0
                try clear hfz114_1
                try clear hfz117_0
                try clear hfz117_1
                try clear hfz93_0
                try clear hfz93_1
                try clear hfz97_0
                try clear hfz97_1
                try clear p2
                try clear p6
                try clear p64
                obtain ⟨x16_4, x17_4, rfl, rfl, HA, HK4, HO_545001, HO_551001, BK532, BK544, BK550, HB⟩ := hrel
                cases gk with
                | zero => exact absurd HA.out (by simp [warrantorlaw09_ZoneSteps.l0])
                | succ k4 =>
                  have H := HA.out
                  clear HA
                  simp only [warrantorlaw09_ZoneSteps.l0] at H
                  by_cases c120 : x17_4 ≤ a0_0
                  · rw [if_pos c120] at H
                    have c120b0 : decide (x17_4 ≤ a0_0) = true := decide_eq_true c120
                    clear c120
                    replace H := bd_ H
                    obtain ⟨⟨t570, t571⟩, A121, H⟩ := H
                    (try dsimp only at H)
                    by_cases c122 : x17_4 = a2
                    · rw [if_pos c122] at H
                      have c122b0 : (x17_4 == a2) = true := beq_iff_eq.mpr c122
                      have c122b1 : (x17_4 != a2) = false := bne_eq_false_iff_eq.mpr c122
                      clear c122
                      have H' := Aside0.mk H
                      clear H
                      have hnb123 := NB532_544.out
                      have hnc123 := NB544_532.out
                      have hnb124 := NB532_550.out
                      have hnc124 := NB550_532.out
                      obtain ⟨hcz125_0, hcz125_1, hfz125_0, hfz125_1⟩ := cz2_ BK532
                      go_wp2_with (first | ((with_reducible refine gate_callee (f := 47) rfl ?_); refine goesL_ (some 141) rfl rfl Try.func47 (by kernel_rfl) rfl #[.agg #[.int .i64 a0_0, .slice A0_1 l0_1.length c0_1], .int .i64 x17_4, .int .i64 a2] rfl MP_ ?_; (with_reducible refine (dbm_Bound.calls k4 a0_0 _ _ l0_1 x17_4 a2 t570 t571 _ ?side1 ?side2 A121.out).mono ?_); (case side1 => exact sd_ (Kd.C_below HR0_1.out HB.out)); (case side2 => exact HC0_1.out); rintro e w126 ⟨rfl, hb⟩; refine ⟨_, rfl, ?_⟩; have n_ := a_ (rb_ HO_545001 hb) (a_ (rb_ HO_551001 hb) (a_ (bb_ BK532 hb) (a_ (bb_ BK544 hb) (a_ (bb_ BK550 hb) (bs_ HB hb))))); clear HO_545001 HO_551001 BK532 BK544 BK550 HB; obtain ⟨HO_545001, HO_551001, BK532, BK544, BK550, HB⟩ := n_; (try clear hb); (try clear hb2); (try clear hk); (try clear hi)))
                      go_roundg k4
                      case measure => have := HJ5.out; have := HJ48.out; have := HJ98.out; have := HK4.out; omega
                      case rel => exact ⟨(x16_4), (wrap64 (x17_4 + 1)), (by first | rfl | (simp; done) | (simp [*]; done)), (by first | rfl | (simp; done) | (simp [*]; done)), H', ⟨by have := HJ5.out; have := HJ48.out; have := HJ98.out; have := HK4.out; omega⟩, ⟨by (with_reducible repeat (first | apply Kd.R_alloc | apply Kd.R_drewN | apply Kd.R_drew)); exact HO_545001.out⟩, ⟨by (with_reducible repeat (first | apply Kd.R_alloc | apply Kd.R_drewN | apply Kd.R_drew)); exact HO_551001.out⟩, ⟨by (with_reducible repeat (first | refine blk_drewN ?_ _ | refine blk_drew ?_ | refine blk_alloc ?_ _)); exact BK532.out⟩, ⟨by (with_reducible repeat (first | refine blk_drewN ?_ _ | refine blk_drew ?_ | refine blk_alloc ?_ _)); exact BK544.out⟩, ⟨by (with_reducible repeat (first | refine blk_drewN ?_ _ | refine blk_drew ?_ | refine blk_alloc ?_ _)); exact BK550.out⟩, ⟨HB_⟩⟩
                    rw [if_neg c122] at H
                    have c122b0 : (x17_4 == a2) = false := beq_eq_false_iff_ne.mpr c122
                    have c122b1 : (x17_4 != a2) = true := bne_iff_ne.mpr c122
                    replace H := bd_ H
                    obtain ⟨t572, A127, H⟩ := H
                    (try dsimp only at H)
                    by_cases c128 : (wrap64 (t572 - t570)) > x16_4
                    rotate_left
                    · rw [if_neg c128] at H
                      have c128b0 : decide (x16_4 < (wrap64 (t572 - t570))) = false := decide_eq_false c128
                      have c128b0v : decide (x16_4 < (IntKind.i64.wrap (t572 - t570))) = false := by (try simp only [i64_w]); exact c128b0
                      clear c128
                      have H' := Aside0.mk H
                      clear H
                      have hnb134 := NB532_544.out
                      have hnc134 := NB544_532.out
                      have hnb135 := NB532_550.out
                      have hnc135 := NB550_532.out
                      obtain ⟨hcz136_0, hcz136_1, hfz136_0, hfz136_1⟩ := cz2_ BK532
                      go_wp2_with (first | ((with_reducible refine gate_callee (f := 47) rfl ?_); refine goesL_ (some 141) rfl rfl Try.func47 (by kernel_rfl) rfl #[.agg #[.int .i64 a0_0, .slice A0_1 l0_1.length c0_1], .int .i64 x17_4, .int .i64 a2] rfl MP_ ?_; (with_reducible refine (dbm_Bound.calls k4 a0_0 _ _ l0_1 x17_4 a2 t570 t571 _ ?side1 ?side2 A121.out).mono ?_); (case side1 => exact sd_ (Kd.C_below HR0_1.out HB.out)); (case side2 => exact HC0_1.out); rintro e w137 ⟨rfl, hb⟩; refine ⟨_, rfl, ?_⟩; have n_ := a_ (rb_ HO_545001 hb) (a_ (rb_ HO_551001 hb) (a_ (bb_ BK532 hb) (a_ (bb_ BK544 hb) (a_ (bb_ BK550 hb) (bs_ HB hb))))); clear HO_545001 HO_551001 BK532 BK544 BK550 HB; obtain ⟨HO_545001, HO_551001, BK532, BK544, BK550, HB⟩ := n_; (try clear hb); (try clear hb2); (try clear hk); (try clear hi)) | (go_at_call 44; (with_reducible refine (warrantorlaw09_value.calls _ _ l1 x17_4 t572 _ ?side1 ?side2 A127.out).mono ?_); (case side1 => exact sd_ (Kd.C_below HR1.out HB.out)); (case side2 => exact HC1.out); rintro e w' ⟨rfl, ⟨nd, rfl⟩⟩))
                      go_roundg k4
                      case measure => have := HJ5.out; have := HJ48.out; have := HJ98.out; have := HK4.out; omega
                      case rel => exact ⟨(x16_4), (wrap64 (x17_4 + 1)), (by first | rfl | (simp; done) | (simp [*]; done)), (by first | rfl | (simp; done) | (simp [*]; done)), H', ⟨by have := HJ5.out; have := HJ48.out; have := HJ98.out; have := HK4.out; omega⟩, ⟨by (with_reducible repeat (first | apply Kd.R_alloc | apply Kd.R_drewN | apply Kd.R_drew)); exact HO_545001.out⟩, ⟨by (with_reducible repeat (first | apply Kd.R_alloc | apply Kd.R_drewN | apply Kd.R_drew)); exact HO_551001.out⟩, ⟨by (with_reducible repeat (first | refine blk_drewN ?_ _ | refine blk_drew ?_ | refine blk_alloc ?_ _)); exact BK532.out⟩, ⟨by (with_reducible repeat (first | refine blk_drewN ?_ _ | refine blk_drew ?_ | refine blk_alloc ?_ _)); exact BK544.out⟩, ⟨by (with_reducible repeat (first | refine blk_drewN ?_ _ | refine blk_drew ?_ | refine blk_alloc ?_ _)); exact BK550.out⟩, ⟨HB_⟩⟩
                    rw [if_pos c128] at H
                    have c128b0 : decide (x16_4 < (wrap64 (t572 - t570))) = true := decide_eq_true c128
                    have c128b0v : decide (x16_4 < (IntKind.i64.wrap (t572 - t570))) = true := by (try simp only [i64_w]); exact c128b0
                    clear c128
                    replace H := bd_ H
                    obtain ⟨t573, A129, H⟩ := H
                    (try dsimp only at H)
                    have H' := Aside0.mk H
                    clear H
                    have hnb130 := NB532_544.out
                    have hnc130 := NB544_532.out
                    have hnb131 := NB532_550.out
                    have hnc131 := NB550_532.out
                    obtain ⟨hcz132_0, hcz132_1, hfz132_0, hfz132_1⟩ := cz2_ BK532
                    go_wp2_with (first | ((with_reducible refine gate_callee (f := 47) rfl ?_); refine goesL_ (some 141) rfl rfl Try.func47 (by kernel_rfl) rfl #[.agg #[.int .i64 a0_0, .slice A0_1 l0_1.length c0_1], .int .i64 x17_4, .int .i64 a2] rfl MP_ ?_; (with_reducible refine (dbm_Bound.calls k4 a0_0 _ _ l0_1 x17_4 a2 t570 t571 _ ?side1 ?side2 A121.out).mono ?_); (case side1 => exact sd_ (Kd.C_below HR0_1.out HB.out)); (case side2 => exact HC0_1.out); rintro e w133 ⟨rfl, hb⟩; refine ⟨_, rfl, ?_⟩; have n_ := a_ (rb_ HO_545001 hb) (a_ (rb_ HO_551001 hb) (a_ (bb_ BK532 hb) (a_ (bb_ BK544 hb) (a_ (bb_ BK550 hb) (bs_ HB hb))))); clear HO_545001 HO_551001 BK532 BK544 BK550 HB; obtain ⟨HO_545001, HO_551001, BK532, BK544, BK550, HB⟩ := n_; (try clear hb); (try clear hb2); (try clear hk); (try clear hi)) | (go_at_call 44; (with_reducible refine (warrantorlaw09_value.calls _ _ l1 x17_4 t572 _ ?side1 ?side2 A127.out).mono ?_); (case side1 => exact sd_ (Kd.C_below HR1.out HB.out)); (case side2 => exact HC1.out); rintro e w' ⟨rfl, ⟨nd, rfl⟩⟩; (try clear A127)) | ((with_reducible refine gate_callee (f := 44) rfl ?_); refine goesL_ (some 158) rfl rfl Try.func44 (by kernel_rfl) rfl #[.slice A1 l1.length c1, .int .i64 x17_4] rfl MP_ ?_; (with_reducible refine (warrantorlaw09_value.calls _ _ l1 x17_4 t573 _ ?side1 ?side2 A129.out).mono ?_); (case side1 => repeat (first | exact (Kd.C_below HR1.out HB_) | (with_reducible refine Kd.C_alloc ?_ _) | (with_reducible refine Kd.C_drewN ?_ _) | (with_reducible refine Kd.C_drew ?_))); (case side2 => exact HC1.out); rintro e w' ⟨rfl, ⟨nd, rfl⟩⟩; refine ⟨_, rfl, ?_⟩))
                    go_roundg k4
                    case measure => have := HJ5.out; have := HJ48.out; have := HJ98.out; have := HK4.out; omega
                    case rel => exact ⟨(wrap64 (t573 - t570)), (wrap64 (x17_4 + 1)), (by first | rfl | (simp; done) | (simp [*]; done)), (by first | rfl | (simp; done) | (simp [*]; done)), H', ⟨by have := HJ5.out; have := HJ48.out; have := HJ98.out; have := HK4.out; omega⟩, ⟨by (with_reducible repeat (first | apply Kd.R_alloc | apply Kd.R_drewN | apply Kd.R_drew)); exact HO_545001.out⟩, ⟨by (with_reducible repeat (first | apply Kd.R_alloc | apply Kd.R_drewN | apply Kd.R_drew)); exact HO_551001.out⟩, ⟨by (with_reducible repeat (first | refine blk_drewN ?_ _ | refine blk_drew ?_ | refine blk_alloc ?_ _)); exact BK532.out⟩, ⟨by (with_reducible repeat (first | refine blk_drewN ?_ _ | refine blk_drew ?_ | refine blk_alloc ?_ _)); exact BK544.out⟩, ⟨by (with_reducible repeat (first | refine blk_drewN ?_ _ | refine blk_drew ?_ | refine blk_alloc ?_ _)); exact BK550.out⟩, ⟨HB_⟩⟩
                  rw [if_neg c120] at H
                  have c120b0 : decide (x17_4 ≤ a0_0) = false := decide_eq_false c120
                  clear c120
                  replace H := bd_ H
                  obtain ⟨t566, A138, H⟩ := H
                  (try dsimp only at H)
                  replace H := bd_ H
                  obtain ⟨t569, A139, H⟩ := H
                  (try dsimp only at H)
                  obtain rfl := Option.some.inj H
                  have hnb140 := NB532_544.out
                  have hnc140 := NB544_532.out
                  have hnb141 := NB532_550.out
                  have hnc141 := NB550_532.out
                  obtain ⟨hcz142_0, hcz142_1, hfz142_0, hfz142_1⟩ := cz2_ BK532
                  try go_wp2
                  have n_ := a_ (Aside0.mk (Kd.R_drew HO_545001.out)) (a_ (Aside0.mk (Kd.R_drew HO_551001.out)) (a_ (Aside0.mk (blk_drew BK532.out)) (a_ (Aside0.mk (blk_drew BK544.out)) (a_ (Aside0.mk (blk_drew BK550.out)) (Aside0.mk (below_drew1 HB.out))))))
                  clear HO_545001 HO_551001 BK532 BK544 BK550 HB
                  obtain ⟨HO_545001, HO_551001, BK532, BK544, BK550, HB⟩ := n_
                  refine start_ (n := 7) (S := fun w' => w'.cell? ⟨gb532, 0, none⟩ = some (.int .i64 a0_0) ∧ w'.cell? ⟨gb532, 1, none⟩ = some (.slice A0_1 l0_1.length c0_1)) (ds := []) #[false, false, false, false, false, false, false] (by kernel_rfl) rfl rfl ⟨(blk_cell BK532.out 0).trans rfl, (blk_cell BK532.out 1).trans rfl⟩ (fun hHeld => ?_)
                  generalize wr.drew = w143 at HO_545001 HO_551001 BK532 BK544 BK550 HB hHeld ⊢
                  refine pure_ (i := 1) (N := some 162) (v := ?_) (a' := ?_) #[false, true, false, false, false, false, false] rfl rfl (by kernel_rfl) (fun _ _ _ h => h) (Or.inl ⟨by rfl, ?_⟩) ?_ ?_
                  rotate_left
                  · intro w'
                    go_simp
                    with_reducible rfl
                  rotate_left
                  · exact AP_
                  refine pure_ (i := 2) (N := some 163) (v := ?_) (a' := ?_) #[false, true, true, false, false, false, false] rfl rfl (by kernel_rfl) (fun _ _ _ h => h) (Or.inl ⟨by rfl, ?_⟩) ?_ ?_
                  rotate_left
                  · intro w'
                    go_simp
                    with_reducible rfl
                  rotate_left
                  · exact AP_
                  refine pure_ (i := 3) (N := some 164) (v := ?_) (a' := ?_) #[false, true, true, true, false, false, false] rfl rfl (by kernel_rfl) (fun _ _ _ h => h) (Or.inl ⟨by rfl, ?_⟩) ?_ ?_
                  rotate_left
                  · intro w'
                    go_simp
                    with_reducible rfl
                  rotate_left
                  · exact AP_
                  refine take_ (i := 0) (N := some 161) (v := ?_) (a' := ?_) #[true, true, true, true, false, false, false] rfl rfl (by kernel_rfl) (fun _ _ _ h => h) (Or.inl ⟨by rfl, ?_⟩) hHeld ?_ ?_
                  rotate_left
                  · rintro w' ⟨s0, s1⟩
                    go_simp
                    with_reducible rfl
                  rotate_left
                  · exact AP_
                  refine one_ (i := 4) (N := some 165) #[true, true, true, true, true, false, false] rfl rfl (by kernel_rfl) (by decide) (fun K hK => ?_)
                  refine goes_ Try.func46 (by kernel_rfl) rfl #[.slice A1 l1.length c1, .int .i64 a2, .int .i64 x16_4] (by rfl) rfl rfl MP_ ?_
                  with_reducible refine (warrantorlaw09_with.calls _ _ l1 a2 x16_4 t566 _ ?side1 ?side2 A138.out).mono ?_
                  (case side1 => exact sd_ (Kd.C_below HR1.out HB.out))
                  (case side2 => exact HC1.out)
                  rintro e w144 ⟨v567, rfl, ho0, hb⟩
                  refine ⟨_, rfl, ?_⟩
                  have n_ := a_ (Aside0.mk (Kd.R_elder' (rd_ HO_545001.out) (Kd.R_base ho0) hb)) (a_ (Aside0.mk (Kd.R_elder' (rd_ HO_551001.out) (Kd.R_base ho0) hb)) (a_ (Aside0.mk (Kd.R_lower (Kd.R_new' (Kd.R_new' ho0 (Kd.R_lt (rd_ HO_545001.out))) (Kd.R_lt (rd_ HO_551001.out))) (below_size HB_))) (a_ (bb_ BK532 hb) (a_ (bb_ BK544 hb) (a_ (bb_ BK550 hb) (bs_ HB hb))))))
                  clear HO_545001 HO_551001 BK532 BK544 BK550 HB
                  obtain ⟨HO_545001, HO_551001, HO568, BK532, BK544, BK550, HB⟩ := n_
                  (try clear hb)
                  (try clear hb2)
                  (try clear hk)
                  (try clear hi)
                  (try clear ho0)
                  obtain ⟨Ao145, co145, eo145⟩ := Kd.R_slice HO568.out
                  (first | subst eo145 | (injection eo145 with f1_ f2_ f3_; have f4_ := f1_.symm; have f5_ := f3_.symm; clear f1_ f2_ f3_; subst f4_; subst f5_))
                  refine hK.out _ _ ⟨(blk_cell BK532.out 0).trans rfl, (blk_cell BK532.out 1).trans rfl⟩ (fun hHeld => ?_)
                  clear hK K
                  refine nm_ ?_
                  refine one_ (i := 5) (N := some 166) #[true, true, true, true, true, true, false] rfl rfl (by kernel_rfl) (by decide) (fun K hK => ?_)
                  refine goes_ Try.func45 (by kernel_rfl) rfl #[.agg #[.int .i64 a0_0, .slice A0_1 l0_1.length c0_1], .slice Ao145 t566.length co145] (by rfl) rfl rfl MP_ ?_
                  with_reducible refine (dbm_Has.calls k4 a0_0 _ _ l0_1 _ _ t566 t569 _ ?side1 ?side2 ?side3 ?side4 A139.out).mono ?_
                  (case side1 => exact sd_ (Kd.C_below HR0_1.out HB.out))
                  (case side2 => exact HC0_1.out)
                  (case side3 => repeat (first | exact (Kd.R_reads' HO568.out).2.2 | (with_reducible refine Kd.C_alloc ?_ _) | (with_reducible refine Kd.C_drewN ?_ _) | (with_reducible refine Kd.C_drew ?_)))
                  (case side4 => exact (Kd.R_reads' HO568.out).2.1)
                  rintro e w146 ⟨rfl, hb⟩
                  refine ⟨_, rfl, ?_⟩
                  have n_ := a_ (rb_ HO_545001 hb) (a_ (rb_ HO_551001 hb) (a_ (rb_ HO568 hb) (a_ (bb_ BK532 hb) (a_ (bb_ BK544 hb) (a_ (bb_ BK550 hb) (bs_ HB hb))))))
                  clear HO_545001 HO_551001 HO568 BK532 BK544 BK550 HB
                  obtain ⟨HO_545001, HO_551001, HO568, BK532, BK544, BK550, HB⟩ := n_
                  (try clear hb)
                  (try clear hb2)
                  (try clear hk)
                  (try clear hi)
                  refine hK.out _ _ ⟨(blk_cell BK532.out 0).trans rfl, (blk_cell BK532.out 1).trans rfl⟩ (fun hHeld => ?_)
                  clear hK K
                  refine nm_ ?_
                  refine pure_ (i := 6) (N := some 10) (v := ?_) (a' := ?_) #[true, true, true, true, true, true, true] rfl rfl (by kernel_rfl) (fun _ _ _ h => h) (Or.inl ⟨by rfl, ?_⟩) ?_ ?_
                  rotate_left
                  · intro w'
                    go_simp
                    with_reducible rfl
                  rotate_left
                  · exact AP_
                  refine done_ (by kernel_rfl) ?_
                  try go_wp2
                  go_ret
                  exact ⟨by first | rfl | (simp [errW_none, errW_some] <;> rfl) | (simp [*, errW_none, errW_some] <;> rfl), HB_⟩
/-- THE ONE PURE STATEMENT of warrantorlaw09_ZoneSteps: yours. -/
def warrantorlaw09_ZoneSteps.Pure : Prop := ∀ (a0_0 : Int) (l0_1 : List Int) (l1 : List Int) (a2 : Int) (a3 : Int) (a4 : Int), (Lit.int .i64 a0_0).wf = true → l0_1.length ≤ maxLen → l0_1.length * 8 ≤ 140737488351232 → (∀ x ∈ l0_1, (Lit.int .i64 x).wf = true) → l1.length ≤ maxLen → l1.length * 8 ≤ 140737488351232 → (∀ x ∈ l1, (Lit.int .i64 x).wf = true) → (Lit.int .i64 a2).wf = true → (Lit.int .i64 a3).wf = true → (Lit.int .i64 a4).wf = true → ∃ k, warrantorlaw09_ZoneSteps.f k a0_0 l0_1 l1 a2 a3 a4 = some true
theorem warrantorlaw09_ZoneSteps.walk (P : warrantorlaw09_ZoneSteps.Pure) (a0_0 : Int) (a0_1 : Option Addr) (len0_1 cap0_1 : Nat) (z0_1 : List Int) (a1 : Option Addr) (len1 cap1 : Nat) (z1 : List Int) (a2 : Int) (a3 : Int) (a4 : Int) (w : World) (w0_0 : (Lit.int .i64 a0_0).wf = true) (w0_1 : (a0_1 = none ∧ len0_1 = 0 ∧ cap0_1 = 0 ∧ z0_1 = []) ∨ ∃ x, a0_1 = some x ∧ len0_1 ≤ cap0_1 ∧ cap0_1 ≤ maxLen ∧ z0_1.length = cap0_1 ∧ (∀ i, i < z0_1.length → w.cell? (x.add i) = some (.int .i64 (z0_1.getD i 0))) ∧ ∀ n ∈ z0_1, (Lit.int .i64 n).wf = true) (y0_1 : len0_1 * 8 ≤ 140737488351232) (w1 : (a1 = none ∧ len1 = 0 ∧ cap1 = 0 ∧ z1 = []) ∨ ∃ x, a1 = some x ∧ len1 ≤ cap1 ∧ cap1 ≤ maxLen ∧ z1.length = cap1 ∧ (∀ i, i < z1.length → w.cell? (x.add i) = some (.int .i64 (z1.getD i 0))) ∧ ∀ n ∈ z1, (Lit.int .i64 n).wf = true) (y1 : len1 * 8 ≤ 140737488351232) (w2 : (Lit.int .i64 a2).wf = true) (w3 : (Lit.int .i64 a3).wf = true) (w4 : (Lit.int .i64 a4).wf = true) :
    Calls Try.prog 7 #[.agg #[.int .i64 a0_0, .slice a0_1 len0_1 cap0_1], .slice a1 len1 cap1, .int .i64 a2, .int .i64 a3, .int .i64 a4] w fun e w' => e = .returned (.bool true) ∧ Below w.heap.size w w' := by
  obtain ⟨l0_1, rfl, hr0_1, hm0_1, hw0_1, hc0_1⟩ := ReadsInt.ofRowC w0_1
  obtain ⟨l1, rfl, hr1, hm1, hw1, hc1⟩ := ReadsInt.ofRowC w1
  obtain ⟨k, h⟩ := P a0_0 l0_1 l1 a2 a3 a4 w0_0 hm0_1 y0_1 hw0_1 hm1 y1 hw1 w2 w3 w4
  refine (warrantorlaw09_ZoneSteps.calls k a0_0 _ _ l0_1 _ _ l1 a2 a3 a4 true w (Kd.C_of_reads (d := (0 : Int)) (h1 := fun _ => rfl) hr0_1) hc0_1 (Kd.C_of_reads (d := (0 : Int)) (h1 := fun _ => rfl) hr1) hc1 h).mono ?_
  rintro e w' ⟨rfl, hd⟩
  exact ⟨rfl, hd⟩

end Go.Proofs.Ytgeemdpflcefkaa.Z
