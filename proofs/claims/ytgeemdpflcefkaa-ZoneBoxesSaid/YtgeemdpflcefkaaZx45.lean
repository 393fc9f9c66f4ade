-- WRITTEN BY this session's program wip/ext.py, in print.py's manner
import Derived.Test.YtgeemdpflcefkaaZx0
import Derived.Test.YtgeemdpflcefkaaZx1
import Derived.Test.YtgeemdpflcefkaaZx3
import Derived.Test.YtgeemdpflcefkaaZx19
import Derived.Test.YtgeemdpflcefkaaZx32
import Derived.Test.YtgeemdpflcefkaaZx33
import Derived.Test.YtgeemdpflcefkaaZx41
import Derived.Test.YtgeemdpflcefkaaZx44
namespace Go.Proofs.Ytgeemdpflcefkaa.Z
open Go.RowKit Go.Proofs.YtgeemdpflcefkaaW.PrintWords Go.Proofs.YtgeemdpflcefkaaW.PrintLast Go.Proofs.YtgeemdpflcefkaaW.PrintMore
attribute [local go_sem] max2_int min2_int max_two min_two max_three min_three max_four min_four   -- for this text's walks alone
set_option linter.unusedVariables false
set_option linter.unusedSimpArgs false

attribute [local go_sem high] eqA39
/-! ### warrantorlaw09_ZoneBoxes: function 9 -/
mutual
def warrantorlaw09_ZoneBoxes.j0 : Nat → List (S39) → List Int → Bool → Option (Bool)
  | 0, _, _, _ => none
  | k + 1, x0, x1, x19 => if x19 = true then ((warrantorlaw09_lives.f k).bind fun t637 => (some t637)) else ((zone_Box.f k x0).bind fun bt638 => ((warrantorlaw09_lives.f k).bind fun t644 => (if t644 = true then (if (x0.length : Int) > 8 then (if bt638.2.2 = 1 then ((warrantorref08_Same.f k bt638.1 bt638.2.1 0 ([] : List Int)).bind fun t645 => (some t645)) else (none)) else (warrantorlaw09_ZoneBoxes.l0 k x0 x1 bt638.2.2 ((x1.length : Int) == (x0.length : Int)) 0 bt638.1 bt638.2.1)) else (none))))
def warrantorlaw09_ZoneBoxes.j2 : Nat → List (S39) → List Int → Int → Bool → Int → List Int → Option (Bool)
  | 0, _, _, _, _, _, _ => none
  | k + 1, x0, x1, x6, x7, x644000, x644001 => if x6 = 0 then ((warrantorref09_Box.f k x0).bind fun bt649 => ((warrantorref08_Same.f k x644000 x644001 bt649.1 bt649.2).bind fun t653 => (if t653 = true then ((dbm_Has.f k x644000 x644001 x1).bind fun t654 => (if (t654 != x7) = true then (none) else (warrantorlaw09_ZoneBoxes.l1 k x0 0 x644000 x644001))) else (none)))) else (none)
def warrantorlaw09_ZoneBoxes.l1 : Nat → List (S39) → Int → Int → List Int → Option (Bool)
  | 0, _, _, _, _ => none
  | k + 1, x0, x9, x644000, x644001 => if x9 < (x0.length : Int) then ((zone_Itv.f k x644000 x644001 (wrap64 (x9 + 1))).bind fun bt655 => (if bt655.2.2 = 0 then ((dbm_Empty.f k x644000 x644001).bind fun t659 => (if t659 = true then ((dbm_Empty.f k x644000 x644001).bind fun t660 => (if t660 = true then ((warrantorref07_None.f).bind fun bt661 => (if (!(bt655.1 == bt661.1) || (!(bt655.2.1 == bt661.2))) = true then (none) else (warrantorlaw09_ZoneBoxes.l1 k x0 (wrap64 (x9 + 1)) x644000 x644001))) else (warrantorlaw09_ZoneBoxes.l1 k x0 (wrap64 (x9 + 1)) x644000 x644001))) else (if 0 ≤ x9 then ((warrantorref07_Plain.f k ((rd_T39 x0 x9).f0) ((rd_T39 x0 x9).f1)).bind fun bt664 => (if (!(bt655.1 == bt664.1) || (!(bt655.2.1 == bt664.2))) = true then (none) else ((dbm_Empty.f k x644000 x644001).bind fun t666 => (if t666 = true then ((warrantorref07_None.f).bind fun bt667 => (if (!(bt655.1 == bt667.1) || (!(bt655.2.1 == bt667.2))) = true then (none) else (warrantorlaw09_ZoneBoxes.l1 k x0 (wrap64 (x9 + 1)) x644000 x644001))) else (warrantorlaw09_ZoneBoxes.l1 k x0 (wrap64 (x9 + 1)) x644000 x644001))))) else (none)))) else (none))) else (some true)
def warrantorlaw09_ZoneBoxes.l0 : Nat → List (S39) → List Int → Int → Bool → Int → Int → List Int → Option (Bool)
  | 0, _, _, _, _, _, _, _ => none
  | k + 1, x0, x1, x6, x7, x8, x644000, x644001 => if x8 < (x0.length : Int) then (if x8 < (x1.length : Int) then (if x7 = true then (if 0 ≤ x8 then ((itv_Has.f ((rd_T39 x0 x8).f0) ((rd_T39 x0 x8).f1) (rd x1 x8)).bind fun t648 => (warrantorlaw09_ZoneBoxes.l0 k x0 x1 x6 t648 (wrap64 (x8 + 1)) x644000 x644001)) else (none)) else (warrantorlaw09_ZoneBoxes.l0 k x0 x1 x6 false (wrap64 (x8 + 1)) x644000 x644001)) else (warrantorlaw09_ZoneBoxes.j2 k x0 x1 x6 x7 x644000 x644001)) else (warrantorlaw09_ZoneBoxes.j2 k x0 x1 x6 x7 x644000 x644001)
end
def warrantorlaw09_ZoneBoxes.f (k : Nat) (l0 : List (S39)) (l1 : List Int) : Option (Bool) := if (l0.length : Int) > 20 then (warrantorlaw09_ZoneBoxes.j0 k l0 l1 true) else (warrantorlaw09_ZoneBoxes.j0 k l0 l1 (decide ((l1.length : Int) > 20)))
theorem warrantorlaw09_ZoneBoxes.mono_l : ∀ k, (∀ y0 y1 y2, LeO (warrantorlaw09_ZoneBoxes.j0 k y0 y1 y2) (warrantorlaw09_ZoneBoxes.j0 (k + 1) y0 y1 y2)) ∧ (∀ y0 y1 y2 y3 y4 y5, LeO (warrantorlaw09_ZoneBoxes.j2 k y0 y1 y2 y3 y4 y5) (warrantorlaw09_ZoneBoxes.j2 (k + 1) y0 y1 y2 y3 y4 y5)) ∧ (∀ y0 y1 y2 y3, LeO (warrantorlaw09_ZoneBoxes.l1 k y0 y1 y2 y3) (warrantorlaw09_ZoneBoxes.l1 (k + 1) y0 y1 y2 y3)) ∧ (∀ y0 y1 y2 y3 y4 y5 y6, LeO (warrantorlaw09_ZoneBoxes.l0 k y0 y1 y2 y3 y4 y5 y6) (warrantorlaw09_ZoneBoxes.l0 (k + 1) y0 y1 y2 y3 y4 y5 y6))
  | 0 => ⟨fun _ _ _ r h => by simp [warrantorlaw09_ZoneBoxes.j0] at h, fun _ _ _ _ _ _ r h => by simp [warrantorlaw09_ZoneBoxes.j2] at h, fun _ _ _ _ r h => by simp [warrantorlaw09_ZoneBoxes.l1] at h, fun _ _ _ _ _ _ _ r h => by simp [warrantorlaw09_ZoneBoxes.l0] at h⟩
  | k + 1 => by
    obtain ⟨ih0, ih1, ih2, ih3⟩ := warrantorlaw09_ZoneBoxes.mono_l k
    refine ⟨?_, ?_, ?_, ?_⟩
    · intro y0 y1 y2
      unfold warrantorlaw09_ZoneBoxes.j0
      repeat' first
      | (with_reducible exact ih0 _ _ _)
      | (with_reducible exact ih1 _ _ _ _ _ _)
      | (with_reducible exact ih2 _ _ _ _)
      | (with_reducible exact ih3 _ _ _ _ _ _ _)
      | (with_reducible exact dbm_Empty.mono _ _ _)
      | (with_reducible exact dbm_Has.mono _ _ _ _)
      | (with_reducible exact warrantorlaw09_lives.mono _)
      | (with_reducible exact warrantorref07_Plain.mono _ _ _)
      | (with_reducible exact warrantorref08_Same.mono _ _ _ _ _)
      | (with_reducible exact warrantorref09_Box.mono _ _)
      | (with_reducible exact zone_Box.mono _ _)
      | (with_reducible exact zone_Itv.mono _ _ _ _)
      | (with_reducible exact LeO.refl _)
      | (with_reducible exact LeO.none _)
      | (with_reducible refine LeO.ite ?_ ?_)
      | (with_reducible refine LeO.bind ?_ (fun _ => ?_))
      | exact ih0 _ _ _
      | exact ih1 _ _ _ _ _ _
      | exact ih2 _ _ _ _
      | exact ih3 _ _ _ _ _ _ _
      | exact dbm_Empty.mono _ _ _
      | exact dbm_Has.mono _ _ _ _
      | exact warrantorlaw09_lives.mono _
      | exact warrantorref07_Plain.mono _ _ _
      | exact warrantorref08_Same.mono _ _ _ _ _
      | exact warrantorref09_Box.mono _ _
      | exact zone_Box.mono _ _
      | exact zone_Itv.mono _ _ _ _
      | exact LeO.none _
      | refine LeO.ite ?_ ?_
      | refine LeO.bind ?_ (fun _ => ?_)
    · intro y0 y1 y2 y3 y4 y5
      unfold warrantorlaw09_ZoneBoxes.j2
      repeat' first
      | (with_reducible exact ih0 _ _ _)
      | (with_reducible exact ih1 _ _ _ _ _ _)
      | (with_reducible exact ih2 _ _ _ _)
      | (with_reducible exact ih3 _ _ _ _ _ _ _)
      | (with_reducible exact dbm_Empty.mono _ _ _)
      | (with_reducible exact dbm_Has.mono _ _ _ _)
      | (with_reducible exact warrantorlaw09_lives.mono _)
      | (with_reducible exact warrantorref07_Plain.mono _ _ _)
      | (with_reducible exact warrantorref08_Same.mono _ _ _ _ _)
      | (with_reducible exact warrantorref09_Box.mono _ _)
      | (with_reducible exact zone_Box.mono _ _)
      | (with_reducible exact zone_Itv.mono _ _ _ _)
      | (with_reducible exact LeO.refl _)
      | (with_reducible exact LeO.none _)
      | (with_reducible refine LeO.ite ?_ ?_)
      | (with_reducible refine LeO.bind ?_ (fun _ => ?_))
      | exact ih0 _ _ _
      | exact ih1 _ _ _ _ _ _
      | exact ih2 _ _ _ _
      | exact ih3 _ _ _ _ _ _ _
      | exact dbm_Empty.mono _ _ _
      | exact dbm_Has.mono _ _ _ _
      | exact warrantorlaw09_lives.mono _
      | exact warrantorref07_Plain.mono _ _ _
      | exact warrantorref08_Same.mono _ _ _ _ _
      | exact warrantorref09_Box.mono _ _
      | exact zone_Box.mono _ _
      | exact zone_Itv.mono _ _ _ _
      | exact LeO.none _
      | refine LeO.ite ?_ ?_
      | refine LeO.bind ?_ (fun _ => ?_)
    · intro y0 y1 y2 y3
      unfold warrantorlaw09_ZoneBoxes.l1
      repeat' first
      | (with_reducible exact ih0 _ _ _)
      | (with_reducible exact ih1 _ _ _ _ _ _)
      | (with_reducible exact ih2 _ _ _ _)
      | (with_reducible exact ih3 _ _ _ _ _ _ _)
      | (with_reducible exact dbm_Empty.mono _ _ _)
      | (with_reducible exact dbm_Has.mono _ _ _ _)
      | (with_reducible exact warrantorlaw09_lives.mono _)
      | (with_reducible exact warrantorref07_Plain.mono _ _ _)
      | (with_reducible exact warrantorref08_Same.mono _ _ _ _ _)
      | (with_reducible exact warrantorref09_Box.mono _ _)
      | (with_reducible exact zone_Box.mono _ _)
      | (with_reducible exact zone_Itv.mono _ _ _ _)
      | (with_reducible exact LeO.refl _)
      | (with_reducible exact LeO.none _)
      | (with_reducible refine LeO.ite ?_ ?_)
      | (with_reducible refine LeO.bind ?_ (fun _ => ?_))
      | exact ih0 _ _ _
      | exact ih1 _ _ _ _ _ _
      | exact ih2 _ _ _ _
      | exact ih3 _ _ _ _ _ _ _
      | exact dbm_Empty.mono _ _ _
      | exact dbm_Has.mono _ _ _ _
      | exact warrantorlaw09_lives.mono _
      | exact warrantorref07_Plain.mono _ _ _
      | exact warrantorref08_Same.mono _ _ _ _ _
      | exact warrantorref09_Box.mono _ _
      | exact zone_Box.mono _ _
      | exact zone_Itv.mono _ _ _ _
      | exact LeO.none _
      | refine LeO.ite ?_ ?_
      | refine LeO.bind ?_ (fun _ => ?_)
    · intro y0 y1 y2 y3 y4 y5 y6
      unfold warrantorlaw09_ZoneBoxes.l0
      repeat' first
      | (with_reducible exact ih0 _ _ _)
      | (with_reducible exact ih1 _ _ _ _ _ _)
      | (with_reducible exact ih2 _ _ _ _)
      | (with_reducible exact ih3 _ _ _ _ _ _ _)
      | (with_reducible exact dbm_Empty.mono _ _ _)
      | (with_reducible exact dbm_Has.mono _ _ _ _)
      | (with_reducible exact warrantorlaw09_lives.mono _)
      | (with_reducible exact warrantorref07_Plain.mono _ _ _)
      | (with_reducible exact warrantorref08_Same.mono _ _ _ _ _)
      | (with_reducible exact warrantorref09_Box.mono _ _)
      | (with_reducible exact zone_Box.mono _ _)
      | (with_reducible exact zone_Itv.mono _ _ _ _)
      | (with_reducible exact LeO.refl _)
      | (with_reducible exact LeO.none _)
      | (with_reducible refine LeO.ite ?_ ?_)
      | (with_reducible refine LeO.bind ?_ (fun _ => ?_))
      | exact ih0 _ _ _
      | exact ih1 _ _ _ _ _ _
      | exact ih2 _ _ _ _
      | exact ih3 _ _ _ _ _ _ _
      | exact dbm_Empty.mono _ _ _
      | exact dbm_Has.mono _ _ _ _
      | exact warrantorlaw09_lives.mono _
      | exact warrantorref07_Plain.mono _ _ _
      | exact warrantorref08_Same.mono _ _ _ _ _
      | exact warrantorref09_Box.mono _ _
      | exact zone_Box.mono _ _
      | exact zone_Itv.mono _ _ _ _
      | exact LeO.none _
      | refine LeO.ite ?_ ?_
      | refine LeO.bind ?_ (fun _ => ?_)
theorem warrantorlaw09_ZoneBoxes.mono : ∀ a0 a1 k, LeO (warrantorlaw09_ZoneBoxes.f k a0 a1) (warrantorlaw09_ZoneBoxes.f (k + 1) a0 a1) := by
  intro a0 a1 k
  obtain ⟨ih0, ih1, ih2, ih3⟩ := warrantorlaw09_ZoneBoxes.mono_l k
  unfold warrantorlaw09_ZoneBoxes.f
  repeat' first
      | (with_reducible exact ih0 _ _ _)
      | (with_reducible exact ih1 _ _ _ _ _ _)
      | (with_reducible exact ih2 _ _ _ _)
      | (with_reducible exact ih3 _ _ _ _ _ _ _)
      | (with_reducible exact dbm_Empty.mono _ _ _)
      | (with_reducible exact dbm_Has.mono _ _ _ _)
      | (with_reducible exact warrantorlaw09_lives.mono _)
      | (with_reducible exact warrantorref07_Plain.mono _ _ _)
      | (with_reducible exact warrantorref08_Same.mono _ _ _ _ _)
      | (with_reducible exact warrantorref09_Box.mono _ _)
      | (with_reducible exact zone_Box.mono _ _)
      | (with_reducible exact zone_Itv.mono _ _ _ _)
      | (with_reducible exact LeO.refl _)
      | (with_reducible exact LeO.none _)
      | (with_reducible refine LeO.ite ?_ ?_)
      | (with_reducible refine LeO.bind ?_ (fun _ => ?_))
      | exact ih0 _ _ _
      | exact ih1 _ _ _ _ _ _
      | exact ih2 _ _ _ _
      | exact ih3 _ _ _ _ _ _ _
      | exact dbm_Empty.mono _ _ _
      | exact dbm_Has.mono _ _ _ _
      | exact warrantorlaw09_lives.mono _
      | exact warrantorref07_Plain.mono _ _ _
      | exact warrantorref08_Same.mono _ _ _ _ _
      | exact warrantorref09_Box.mono _ _
      | exact zone_Box.mono _ _
      | exact zone_Itv.mono _ _ _ _
      | exact LeO.none _
      | refine LeO.ite ?_ ?_
      | refine LeO.bind ?_ (fun _ => ?_)
def warrantorlaw09_ZoneBoxes.T12 : Bool × List (List Nat × List Nat) := (true, [([], []), ([0], [0]), ([1], [1]), ([1], [1]), ([2, 3, 1], [1, 2, 3]), ([4, 1], [1, 4]), ([1], [1]), ([1], [1]), ([6, 7, 1], [1, 6, 7]), ([8, 1], [1, 8]), ([5, 9, 1, 1], [1, 5, 9]), ([1, 10], [1, 10]), ([11, 10, 0, 1, 2, 3, 4, 5, 6, 7, 8, 9, 10, 11], [0, 11])])
def warrantorlaw09_ZoneBoxes.B12 : List Nat := [0, 1, 3, 3, 15, 31, 3, 3, 195, 451, 1023, 2047, 4095]
theorem warrantorlaw09_ZoneBoxes.tab12 : rtab .any (opsOf Try.f9 12) = warrantorlaw09_ZoneBoxes.T12 := by kernel_rfl
theorem warrantorlaw09_ZoneBoxes.bits12 : waitsOk warrantorlaw09_ZoneBoxes.T12.2 warrantorlaw09_ZoneBoxes.B12 = true := by kernel_rfl
def warrantorlaw09_ZoneBoxes.T13 : Bool × List (List Nat × List Nat) := (true, [([], []), ([0], [0]), ([1], [1]), ([2], [2]), ([2], [2]), ([4, 2, 2], [2, 4]), ([3, 5, 5, 2], [2, 3, 5]), ([6, 2], [2, 6]), ([2, 7], [2, 7]), ([8, 6], [8]), ([9], [9]), ([9], [9]), ([10, 11, 9, 9], [9, 10, 11]), ([9], [9]), ([12, 13, 9], [9, 12, 13]), ([9, 14], [9, 14])])
def warrantorlaw09_ZoneBoxes.B13 : List Nat := [0, 1, 3, 7, 7, 23, 63, 127, 255, 511, 1023, 1023, 4095, 1023, 16383, 32767]
theorem warrantorlaw09_ZoneBoxes.tab13 : rtab .any (opsOf Try.f9 13) = warrantorlaw09_ZoneBoxes.T13 := by kernel_rfl
theorem warrantorlaw09_ZoneBoxes.bits13 : waitsOk warrantorlaw09_ZoneBoxes.T13.2 warrantorlaw09_ZoneBoxes.B13 = true := by kernel_rfl
def warrantorlaw09_ZoneBoxes.T19 : Bool × List (List Nat × List Nat) := (true, [([], []), ([0], [0]), ([1], [1]), ([2], [2]), ([3, 2, 2], [2, 3]), ([4, 2], [2, 4]), ([5, 4, 2], [2, 5]), ([6], [6]), ([6], [6]), ([6], [6]), ([8, 9, 6], [6, 8, 9]), ([10, 6], [6, 10]), ([11, 6, 6], [6, 11]), ([7, 12, 6], [6, 7, 12]), ([6, 13, 2], [2, 6, 13]), ([2, 14], [2, 14]), ([15, 12], [15]), ([16], [16]), ([17, 16, 16], [16, 17]), ([18, 18, 16], [16, 18]), ([19], [19]), ([19, 19], [19]), ([20, 21, 19], [19, 20, 21]), ([19, 22, 16], [16, 19, 22]), ([16, 23], [16, 23])])
def warrantorlaw09_ZoneBoxes.B19 : List Nat := [0, 1, 3, 7, 15, 31, 63, 127, 127, 127, 895, 1919, 3967, 8191, 16383, 32767, 65535, 131071, 262143, 524287, 1048575, 1048575, 4194303, 8388607, 16777215]
theorem warrantorlaw09_ZoneBoxes.tab19 : rtab .any (opsOf Try.f9 19) = warrantorlaw09_ZoneBoxes.T19 := by kernel_rfl
theorem warrantorlaw09_ZoneBoxes.bits19 : waitsOk warrantorlaw09_ZoneBoxes.T19.2 warrantorlaw09_ZoneBoxes.B19 = true := by kernel_rfl
set_option maxHeartbeats 8000000 in
set_option maxRecDepth 100000 in
theorem warrantorlaw09_ZoneBoxes.calls (k : Nat) (A0 : Option Addr) (c0 : Nat) (l0 : List (S39)) (A1 : Option Addr) (c1 : Nat) (l1 : List Int) (r : Bool) (w : World) (hr0 : Kd.C k39 w A0 l0.length l0) (hc0 : l0.length ≤ c0) (hr1 : Kd.C (Kd.int .i64) w A1 l1.length l1) (hc1 : l1.length ≤ c1) (h : warrantorlaw09_ZoneBoxes.f k l0 l1 = some r) :
    Calls Try.prog 9 #[.slice A0 l0.length c0, .slice A1 l1.length c1] w fun e w' => e = .returned (.bool r) ∧ Below w.heap.size w w' := by
  have hu24 := Try.underlying24
  have hu39 := Try.underlying39
  have HR0 := Aside0.mk hr0
  have HC0 := Aside0.mk hc0
  clear hr0 hc0
  have HR1 := Aside0.mk hr1
  have HC1 := Aside0.mk hc1
  clear hr1 hc1
  have HB := Aside0.mk (Below.refl w.heap.size w)
  have H : (if (l0.length : Int) > 20 then (warrantorlaw09_ZoneBoxes.j0 k l0 l1 true) else (warrantorlaw09_ZoneBoxes.j0 k l0 l1 (decide ((l1.length : Int) > 20)))) = some r := h
  clear h
  have HC3 := Aside0.mk H
  clear H
  go_enter Try.func9, Try.ntmps9
  go_upto_region 1 with (fail)
  go_cut [19] (fun v19 wc => ∃ (kq : Nat) (x19_2 : Bool), v19 = .bool x19_2 ∧ Aside0 (warrantorlaw09_ZoneBoxes.j0 kq l0 l1 x19_2 = some r) ∧ Aside0 (kq ≤ k) ∧ Aside0 (Below w.heap.size w wc))
  case first =>
    have H := HC3.out
    clear HC3
    by_cases c4 : (l0.length : Int) > 20
    rotate_left
    · rw [if_neg c4] at H
      have c4b0 : decide (20 < (l0.length : Int)) = false := decide_eq_false c4
      have c4b1 : decide (20 < l0.length) = false := decide_eq_false (by omega)
      clear c4
      (first | rw [c4b0] | (simp only [i64_w, i32_w]; rw [c4b0]) | skip)
      have H' := Aside0.mk H
      clear H
      go_wp2
      go_meet
      case rel => exact ⟨_, (decide ((l1.length : Int) > 20)), (by first | rfl | (simp; done) | (simp [*]; done)), H', ⟨by first | omega | exact Nat.le_refl _⟩, ⟨HB_⟩⟩
    rw [if_pos c4] at H
    have c4b0 : decide (20 < (l0.length : Int)) = true := decide_eq_true c4
    have c4b1 : decide (20 < l0.length) = true := decide_eq_true (by omega)
    clear c4
    (first | rw [c4b0] | (simp only [i64_w, i32_w]; rw [c4b0]) | skip)
    have H' := Aside0.mk H
    clear H
    go_wp2
    go_meet
    case rel => exact ⟨_, (true), (by first | rfl | (simp; done) | (simp [*]; done)), H', ⟨by first | omega | exact Nat.le_refl _⟩, ⟨HB_⟩⟩
  case rest =>
    clear HC3
    try clear c1
    try clear p2
    try clear c4
    try clear c4b0
    try clear c4b1
    obtain ⟨kq, x19_2, rfl, HA, HJ2, HB⟩ := hcut
    cases kq with
    | zero => exact absurd HA.out (by simp [warrantorlaw09_ZoneBoxes.j0])
    | succ kj2 =>
      have H := HA.out
      clear HA
      simp only [warrantorlaw09_ZoneBoxes.j0] at H
      by_cases c5 : x19_2 = true
      · subst c5
        replace H := ps1_ H
        replace H := bd_ H
        obtain ⟨t637, A6, H⟩ := H
        (try dsimp only at H)
        obtain rfl := Option.some.inj H
        go_wp2_with (first | ((with_reducible refine gate_callee (f := 22) rfl ?_); refine goesL_ (some 20) rfl rfl Try.func22 (by kernel_rfl) rfl #[] rfl MP_ ?_; (with_reducible refine (warrantorlaw09_lives.calls kj2  t637 _ A6.out).mono ?_); rintro e w7 ⟨rfl, hb⟩; refine ⟨_, rfl, ?_⟩; have n_ := bs_ HB hb; clear HB; have HB := n_; clear n_; (try clear hb); (try clear hb2); (try clear hk); (try clear hi)))
        go_ret
        exact ⟨by first | rfl | (simp [errW_none, errW_some] <;> rfl) | (simp [*, errW_none, errW_some] <;> rfl), HB_⟩
      replace c5 := Bool.eq_false_iff.mpr c5
      subst c5
      replace H := ng1_ H
      replace H := bd_ H
      obtain ⟨⟨t638, t639, t642⟩, A8, H⟩ := H
      (try dsimp only at H)
      replace H := bd_ H
      obtain ⟨t644, A9, H⟩ := H
      (try dsimp only at H)
      replace H := yes_ H
      obtain ⟨c10, H⟩ := H
      subst c10
      by_cases c11 : (l0.length : Int) > 8
      · rw [if_pos c11] at H
        have c11b0 : decide (8 < (l0.length : Int)) = true := decide_eq_true c11
        have c11b1 : decide (8 < l0.length) = true := decide_eq_true (by omega)
        clear c11
        replace H := yes_ H
        obtain ⟨c12, H⟩ := H
        have c12b0 : (t642 == 1) = true := beq_iff_eq.mpr c12
        have c12b1 : (t642 != 1) = false := bne_eq_false_iff_eq.mpr c12
        clear c12
        replace H := bd_ H
        obtain ⟨t645, A13, H⟩ := H
        (try dsimp only at H)
        obtain rfl := Option.some.inj H
        go_wp2_with (first | ((with_reducible refine gate_callee (f := 49) rfl ?_); refine goesL_ (some 23) rfl rfl Try.func49 (by kernel_rfl) rfl #[.slice A0 l0.length c0] rfl MP_ ?_; (with_reducible refine (zone_Box.calls kj2 _ _ l0 t638 t639 t642 _ ?side1 ?side2 A8.out).mono ?_); (case side1 => exact sd_ (Kd.C_below HR0.out HB.out)); (case side2 => exact HC0.out); rintro e w14 ⟨v640, rfl, ho0, hb⟩; refine ⟨_, rfl, ?_⟩; have n_ := a_ (Aside0.mk (Kd.R_lower ho0 (below_size HB_))) (bs_ HB hb); clear HB; obtain ⟨HO641, HB⟩ := n_; (try clear hb); (try clear hb2); (try clear hk); (try clear hi); (try clear ho0)) | ((with_reducible refine gate_dst (N := 5) rfl ?_); (try (refine gate_guard (by rfl) ?_; dsimp only)); refine bx_ (N := 5) (cs := #[.int .i64 0, .slice none 0 0]) (t := 24) ?_; intro gb643 hg w15 hbox hb; have n_ := a_ (rb_ HO641 hb) (a_ (bs_ HB hb) (a_ (Aside0.mk hbox) (a_ (gs_ HB hg) (gs_ HB hg)))); clear HO641 HB; obtain ⟨HO641, HB, BK643, GW643, GE643⟩ := n_; clear hb hbox hg; obtain ⟨hcz16_0, hcz16_1, hfz16_0, hfz16_1⟩ := cz2_ BK643; obtain ⟨Ao17, co17, eo17⟩ := Kd.R_slice HO641.out; subst eo17) | ((with_reducible refine gate_callee (f := 22) rfl ?_); refine goesL_ (some 26) rfl rfl Try.func22 (by kernel_rfl) rfl #[] rfl MP_ ?_; (with_reducible refine (warrantorlaw09_lives.calls kj2  true _ A9.out).mono ?_); rintro e w18 ⟨rfl, hb⟩; refine ⟨_, rfl, ?_⟩; have n_ := a_ (Aside0.mk (Kd.R_below (rd_ (rf2_ HO641 BK643 (.int .i64 t638) (.slice Ao17 t639.length co17))) hb)) (a_ (bc_ #[.int .i64 t638, .slice Ao17 t639.length co17] 24 BK643 hb) (bs_ HB hb)); clear HO641 BK643 HB; obtain ⟨HO641, BK643, HB⟩ := n_; (try clear hb); (try clear hb2); (try clear hk); (try clear hi); obtain ⟨hcz19_0, hcz19_1, hfz19_0, hfz19_1⟩ := cz2_ BK643) | (go_at_call 17; (refine (warrantorref08_Same.calls kj2 t638 _ _ t639 0 _ _ ([] : List Int) t645 _ ?side1 ?side2 ?side3 ?side4 A13.out).mono ?_); (case side1 => repeat (first | exact (Kd.R_reads' HO641.out).2.2 | (with_reducible refine Kd.C_alloc ?_ _) | (with_reducible refine Kd.C_drewN ?_ _) | (with_reducible refine Kd.C_drew ?_))); (case side2 => exact (Kd.R_reads' HO641.out).2.1); (case side3 => exact Kd.C_nil _ _); (case side4 => exact Nat.le_refl _); rintro e w20 ⟨rfl, hb⟩; have n_ := a_ (rb_ HO641 hb) (a_ (bb_ BK643 hb) (bs_ HB hb)); clear HO641 BK643 HB; obtain ⟨HO641, BK643, HB⟩ := n_; (try clear hb); (try clear hb2); (try clear hk); (try clear hi)))
        go_ret
        exact ⟨by first | rfl | (simp [errW_none, errW_some] <;> rfl) | (simp [*, errW_none, errW_some] <;> rfl), HB_⟩
      rw [if_neg c11] at H
      have c11b0 : decide (8 < (l0.length : Int)) = false := decide_eq_false c11
      have c11b1 : decide (8 < l0.length) = false := decide_eq_false (by omega)
      clear c11
      have HC21 := Aside0.mk H
      clear H
      go_upto_block 0 with (first | ((with_reducible refine gate_callee (f := 49) rfl ?_); refine goesL_ (some 23) rfl rfl Try.func49 (by kernel_rfl) rfl #[.slice A0 l0.length c0] rfl MP_ ?_; (with_reducible refine (zone_Box.calls kj2 _ _ l0 t638 t639 t642 _ ?side1 ?side2 A8.out).mono ?_); (case side1 => exact sd_ (Kd.C_below HR0.out HB.out)); (case side2 => exact HC0.out); rintro e w22 ⟨v640, rfl, ho0, hb⟩; refine ⟨_, rfl, ?_⟩; have n_ := a_ (Aside0.mk (Kd.R_lower ho0 (below_size HB_))) (bs_ HB hb); clear HB; obtain ⟨HO641, HB⟩ := n_; (try clear hb); (try clear hb2); (try clear hk); (try clear hi); (try clear ho0)) | ((with_reducible refine gate_dst (N := 5) rfl ?_); (try (refine gate_guard (by rfl) ?_; dsimp only)); refine bx_ (N := 5) (cs := #[.int .i64 0, .slice none 0 0]) (t := 24) ?_; intro gb643 hg w23 hbox hb; have n_ := a_ (rb_ HO641 hb) (a_ (bs_ HB hb) (a_ (Aside0.mk hbox) (a_ (gs_ HB hg) (gs_ HB hg)))); clear HO641 HB; obtain ⟨HO641, HB, BK643, GW643, GE643⟩ := n_; clear hb hbox hg; obtain ⟨hcz24_0, hcz24_1, hfz24_0, hfz24_1⟩ := cz2_ BK643; obtain ⟨Ao25, co25, eo25⟩ := Kd.R_slice HO641.out; subst eo25) | ((with_reducible refine gate_callee (f := 22) rfl ?_); refine goesL_ (some 26) rfl rfl Try.func22 (by kernel_rfl) rfl #[] rfl MP_ ?_; (with_reducible refine (warrantorlaw09_lives.calls kj2  true _ A9.out).mono ?_); rintro e w26 ⟨rfl, hb⟩; refine ⟨_, rfl, ?_⟩; have n_ := a_ (Aside0.mk (Kd.R_below (rd_ (rf2_ HO641 BK643 (.int .i64 t638) (.slice Ao25 t639.length co25))) hb)) (a_ (bc_ #[.int .i64 t638, .slice Ao25 t639.length co25] 24 BK643 hb) (bs_ HB hb)); clear HO641 BK643 HB; obtain ⟨HO641, BK643, HB⟩ := n_; (try clear hb); (try clear hb2); (try clear hk); (try clear hi)))
      (try simp only [Act.put, List.setIfInBounds_toArray, List.set_cons_zero, List.set_cons_succ])
      go_cut [7] (fun v7 wc => ∃ (kq : Nat) (x7_20 : Bool), v7 = .bool x7_20 ∧ Aside0 (warrantorlaw09_ZoneBoxes.j2 kq l0 l1 t642 x7_20 t638 t639 = some r) ∧ Aside0 (kq ≤ kj2) ∧ Aside0 (Kd.R (Kd.int .i64) 3 wc w.heap.size (fun _ => True) (.slice Ao25 t639.length co25) t639) ∧ Aside0 (wc.heap[gb643]? = some (.cells #[.int .i64 t638, (.slice Ao25 t639.length co25)] 24 (0, 0))) ∧ Aside0 (Below w.heap.size w wc))
      case first =>
        have H := HC21.out
        clear HC21
        have H' := Aside0.mk H
        clear H
        go_wp2
        go_loopg [7, 8] kj2 (fun kq v7 v8 w' => ∃ (x7_2 : Bool) (x8_2 : Int), v7 = .bool x7_2 ∧ v8 = .int .i64 x8_2 ∧ Aside0 (warrantorlaw09_ZoneBoxes.l0 kq l0 l1 t642 x7_2 x8_2 t638 t639 = some r) ∧ Aside0 (kq ≤ kj2) ∧ Aside0 (Kd.R (Kd.int .i64) 3 w' w.heap.size (fun _ => True) (.slice Ao25 t639.length co25) t639) ∧ Aside0 (w'.heap[gb643]? = some (.cells #[.int .i64 t638, (.slice Ao25 t639.length co25)] 24 (0, 0))) ∧ Aside0 (Below w.heap.size w w'))
        case atStart => exact ⟨(((l1.length : Int) == (l0.length : Int))), (0), (by first | rfl | (simp; done) | (simp [*]; done)), (by first | rfl | (simp; done) | (simp [*]; done)), H', ⟨Nat.le_refl _⟩, ⟨by (with_reducible repeat (first | apply Kd.R_alloc | apply Kd.R_drewN | apply Kd.R_drew)); exact HO641.out⟩, ⟨by (with_reducible repeat (first | refine blk_drewN ?_ _ | refine blk_drew ?_ | refine blk_alloc ?_ _)); exact BK643.out⟩, ⟨HB_⟩⟩
        case round =>
          clear H'
          try clear c1
          try clear c2
          try clear p2
          try clear c4
          try clear c4b0
          try clear c4b1
          try clear c5
          try clear c9
          try clear c10
          try clear c11
          try clear c11b0
          try clear c11b1
          try clear c12
          try clear c12b0
          try clear c12b1
          try clear c22
          try clear hcz16_0
          try clear hcz16_1
          try clear hcz19_0
          try clear hcz19_1
          try clear hcz24_0
          try clear hcz24_1
          try clear hfz16_0
          try clear hfz16_1
          try clear hfz19_0
          try clear hfz19_1
          try clear hfz24_0
          try clear hfz24_1
          try clear p2
          obtain ⟨x7_2, x8_2, rfl, rfl, HA, HK2, HO_644001, BK643, HB⟩ := hrel
          cases gk with
          | zero => exact absurd HA.out (by simp [warrantorlaw09_ZoneBoxes.l0])
          | succ k2 =>
            have H := HA.out
            clear HA
            simp only [warrantorlaw09_ZoneBoxes.l0] at H
            by_cases c27 : x8_2 < (l0.length : Int)
            rotate_left
            · rw [if_neg c27] at H
              have c27b0 : decide (x8_2 < (l0.length : Int)) = false := decide_eq_false c27
              clear c27
              (first | rw [c27b0] | (simp only [i64_w, i32_w]; rw [c27b0]) | skip)
              have H' := Aside0.mk H
              clear H
              go_wp2
              go_meet
              case rel => exact ⟨_, (x7_2), (by first | rfl | (simp; done) | (simp [*]; done)), H', ⟨by have := HJ2.out; have := HK2.out; first | omega | exact Nat.le_refl _⟩, ⟨by (with_reducible repeat (first | apply Kd.R_alloc | apply Kd.R_drewN | apply Kd.R_drew)); exact HO_644001.out⟩, ⟨by (with_reducible repeat (first | refine blk_drewN ?_ _ | refine blk_drew ?_ | refine blk_alloc ?_ _)); exact BK643.out⟩, ⟨HB_⟩⟩
            rw [if_pos c27] at H
            have c27b0 : decide (x8_2 < (l0.length : Int)) = true := decide_eq_true c27
            clear c27
            (first | rw [c27b0] | (simp only [i64_w, i32_w]; rw [c27b0]) | skip)
            by_cases c28 : x8_2 < (l1.length : Int)
            rotate_left
            · rw [if_neg c28] at H
              have c28b0 : decide (x8_2 < (l1.length : Int)) = false := decide_eq_false c28
              clear c28
              have H' := Aside0.mk H
              clear H
              go_wp2
              go_meet
              case rel => exact ⟨_, (x7_2), (by first | rfl | (simp; done) | (simp [*]; done)), H', ⟨by have := HJ2.out; have := HK2.out; first | omega | exact Nat.le_refl _⟩, ⟨by (with_reducible repeat (first | apply Kd.R_alloc | apply Kd.R_drewN | apply Kd.R_drew)); exact HO_644001.out⟩, ⟨by (with_reducible repeat (first | refine blk_drewN ?_ _ | refine blk_drew ?_ | refine blk_alloc ?_ _)); exact BK643.out⟩, ⟨HB_⟩⟩
            rw [if_pos c28] at H
            have c28b0 : decide (x8_2 < (l1.length : Int)) = true := decide_eq_true c28
            clear c28
            by_cases c29 : x7_2 = true
            rotate_left
            · replace c29 := Bool.eq_false_iff.mpr c29
              subst c29
              replace H := ng1_ H
              have H' := Aside0.mk H
              clear H
              try go_wp2
              have n_ := a_ (Aside0.mk (Kd.R_drew HO_644001.out)) (a_ (Aside0.mk (blk_drew BK643.out)) (Aside0.mk (below_drew1 HB.out)))
              clear HO_644001 BK643 HB
              obtain ⟨HO_644001, BK643, HB⟩ := n_
              refine start_ (n := 13) (S := fun w' => True) (ds := []) #[false, false, false, false, false, false, false, false, false, false, false, false, false] (by kernel_rfl) rfl rfl trivial (fun hHeld => ?_); refine with_tabW warrantorlaw09_ZoneBoxes.tab12 warrantorlaw09_ZoneBoxes.bits12 (fun HT_ HW_ => ?_)
              generalize wr.drew = w34 at HO_644001 BK643 HB hHeld ⊢
              refine pu_ 0 (some 55) ?_
              refine pu_ 1 (some 56) ?_
              refine pv_ 2 (some 57) ?_
              refine pv_ 3 (some 58) ?_
              refine pv_ 4 (some 59) ?_
              refine pv_ 5 (some 60) ?_
              refine pv_ 6 (some 61) ?_
              refine pv_ 7 (some 62) ?_
              refine pv_ 8 (some 63) ?_
              refine pv_ 9 (some 64) ?_
              refine pv_ 10 (some 65) ?_
              refine pu_ 11 (some 66) ?_
              refine pu_ 12 (some 7) ?_
              refine done_ (done_of HT_.out (by kernel_rfl)) ?_
              try go_wp2
              go_roundg k2
              case measure => have := HJ2.out; have := HK2.out; omega
              case rel => exact ⟨(false), (wrap64 (x8_2 + 1)), (by first | rfl | (simp; done) | (simp [*]; done)), (by first | rfl | (simp; done) | (simp [*]; done)), H', ⟨by have := HJ2.out; have := HK2.out; omega⟩, ⟨by (with_reducible repeat (first | apply Kd.R_alloc | apply Kd.R_drewN | apply Kd.R_drew)); exact HO_644001.out⟩, ⟨by (with_reducible repeat (first | refine blk_drewN ?_ _ | refine blk_drew ?_ | refine blk_alloc ?_ _)); exact BK643.out⟩, ⟨HB_⟩⟩
            subst c29
            replace H := ps1_ H
            replace H := yes_ H
            obtain ⟨c30, H⟩ := H
            have c30b0 : decide (0 ≤ x8_2) = true := decide_eq_true c30
            clear c30
            replace H := bd_ H
            obtain ⟨t648, A31, H⟩ := H
            (try dsimp only at H)
            have H' := Aside0.mk H
            clear H
            try go_wp2
            have n_ := a_ (Aside0.mk (Kd.R_drew HO_644001.out)) (a_ (Aside0.mk (blk_drew BK643.out)) (Aside0.mk (below_drew1 HB.out)))
            clear HO_644001 BK643 HB
            obtain ⟨HO_644001, BK643, HB⟩ := n_
            have p646 : 0 ≤ (x8_2 : Int) := of_decide_eq_true (by first | (with_reducible assumption) | assumption)
            have q646 : x8_2 < (l0.length : Int) := of_decide_eq_true (by first | (with_reducible assumption) | assumption)
            obtain ⟨ad646, e646, hx646_0, hx646_1⟩ := at_T39 HR0.out x8_2 p646 q646
            have hw646_1 := hx646_1
            have hw646_0 := hx646_0
            cases e646
            first | (replace hx646_0 := (HB.out.cell (World.block_lt_of_cell? w _ hx646_0)).trans hx646_0) | skip
            first | (replace hx646_1 := (HB.out.cell (World.block_lt_of_cell? w _ hx646_1)).trans hx646_1) | skip
            replace p646 := eq_true p646
            replace q646 := eq_true q646
            have p647 : 0 ≤ (x8_2 : Int) := of_decide_eq_true (by first | (with_reducible assumption) | assumption)
            have q647 : x8_2 < (l1.length : Int) := of_decide_eq_true (by first | (with_reducible assumption) | assumption)
            obtain ⟨ad647, e647, hx647_0⟩ := Kd.at_int HR1.out x8_2 p647 q647
            have hw647_0 := hx647_0
            cases e647
            first | (replace hx647_0 := (HB.out.cell (World.block_lt_of_cell? w _ hx647_0)).trans hx647_0) | skip
            replace p647 := eq_true p647
            replace q647 := eq_true q647
            refine start_ (n := 13) (S := fun w' => w'.cell? (ad646.add ((x8_2).toNat * 2)) = some (.int .i64 ((rd_T39 l0 x8_2).f0)) ∧ w'.cell? ⟨(ad646.add ((x8_2).toNat * 2)).block, (ad646.add ((x8_2).toNat * 2)).off + 1, none⟩ = some (.int .i64 ((rd_T39 l0 x8_2).f1)) ∧ w'.cell? (ad647.add (x8_2).toNat) = some (.int .i64 (rd l1 x8_2))) (ds := []) #[false, false, false, false, false, false, false, false, false, false, false, false, false] (by kernel_rfl) rfl rfl ⟨((HB.out.cell (World.block_lt_of_cell? w _ hw646_0)).trans hw646_0), ((HB.out.cell (World.block_lt_of_cell? w _ hw646_1)).trans hw646_1), ((HB.out.cell (World.block_lt_of_cell? w _ hw647_0)).trans hw647_0)⟩ (fun hHeld => ?_); refine with_tabW warrantorlaw09_ZoneBoxes.tab12 warrantorlaw09_ZoneBoxes.bits12 (fun HT_ HW_ => ?_)
            generalize wr.drew = w32 at HO_644001 BK643 HB hx646_0 hx646_1 hx647_0 hHeld ⊢
            refine pu_ 0 (some 55) ?_
            refine pu_ 1 (some 56) ?_
            refine pu_ 2 (some 57) ?_
            refine pu_ 3 (some 58) ?_
            refine pu_ 4 (some 59) ?_
            refine pu_ 6 (some 61) ?_
            refine pu_ 7 (some 62) ?_
            refine pu_ 8 (some 63) ?_
            refine take_ (i := 5) (N := some 60) (v := ?_) (a' := ?_) #[true, true, true, true, true, true, true, true, true, false, false, false, false] rfl rfl (take_ofW HT_.out HW_.out (by kernel_rfl)) (fun _ _ _ h => h) (Or.inl ⟨by rfl, ?_⟩) hHeld ?_ ?_
            rotate_left
            · rintro w' ⟨s0, s1, s2⟩
              go_simp
              with_reducible rfl
            rotate_left
            · exact AP_
            refine take_ (i := 9) (N := some 64) (v := ?_) (a' := ?_) #[true, true, true, true, true, true, true, true, true, true, false, false, false] rfl rfl (take_ofW HT_.out HW_.out (by kernel_rfl)) (fun _ _ _ h => h) (Or.inl ⟨by rfl, ?_⟩) hHeld ?_ ?_
            rotate_left
            · rintro w' ⟨s0, s1, s2⟩
              go_simp
              with_reducible rfl
            rotate_left
            · exact AP_
            refine on_ 10 (some 65) (fun K hK => ?_)
            refine goes_ Try.func50 (by kernel_rfl) rfl #[.agg #[.int .i64 ((rd_T39 l0 x8_2).f0), .int .i64 ((rd_T39 l0 x8_2).f1)], .int .i64 (rd l1 x8_2)] (by rfl) rfl rfl MP_ ?_
            with_reducible refine (itv_Has.calls ((rd_T39 l0 x8_2).f0) ((rd_T39 l0 x8_2).f1) (rd l1 x8_2) t648 _ A31.out).mono ?_
            rintro e w33 ⟨rfl, hb⟩
            refine ⟨_, rfl, ?_⟩
            have n_ := a_ (rb_ HO_644001 hb) (a_ (bb_ BK643 hb) (bs_ HB hb))
            clear HO_644001 BK643 HB
            obtain ⟨HO_644001, BK643, HB⟩ := n_
            (try clear hb)
            (try clear hb2)
            (try clear hk)
            (try clear hi)
            refine hK.out _ _ ⟨((HB.out.cell (World.block_lt_of_cell? w _ hw646_0)).trans hw646_0), ((HB.out.cell (World.block_lt_of_cell? w _ hw646_1)).trans hw646_1), ((HB.out.cell (World.block_lt_of_cell? w _ hw647_0)).trans hw647_0)⟩ (fun hHeld => ?_)
            clear hK K
            refine nm_ ?_
            refine pu_ 11 (some 66) ?_
            refine pu_ 12 (some 7) ?_
            refine done_ (done_of HT_.out (by kernel_rfl)) ?_
            try go_wp2
            go_roundg k2
            case measure => have := HJ2.out; have := HK2.out; omega
            case rel => exact ⟨(t648), (wrap64 (x8_2 + 1)), (by first | rfl | (simp; done) | (simp [*]; done)), (by first | rfl | (simp; done) | (simp [*]; done)), H', ⟨by have := HJ2.out; have := HK2.out; omega⟩, ⟨by (with_reducible repeat (first | apply Kd.R_alloc | apply Kd.R_drewN | apply Kd.R_drew)); exact HO_644001.out⟩, ⟨by (with_reducible repeat (first | refine blk_drewN ?_ _ | refine blk_drew ?_ | refine blk_alloc ?_ _)); exact BK643.out⟩, ⟨HB_⟩⟩
      case rest =>
        clear HC21
        try clear c1
        try clear c2
        try clear p2
        try clear c3
        try clear c4
        try clear c4b0
        try clear c4b1
        try clear c5
        try clear p6
        try clear q6
        try clear hx6
        try clear c9
        try clear c10
        try clear c11
        try clear c11b0
        try clear c11b1
        try clear c12
        try clear c12b0
        try clear c12b1
        try clear c22
        try clear c27
        try clear c27b0
        try clear c28
        try clear c28b0
        try clear c29
        try clear c30
        try clear c30b0
        try clear hcz16_0
        try clear hcz16_1
        try clear hcz19_0
        try clear hcz19_1
        try clear hcz24_0
        try clear hcz24_1
        try clear hfz16_0
        try clear hfz16_1
        try clear hfz19_0
        try clear hfz19_1
        try clear hfz24_0
        try clear hfz24_1
        try clear hx646_0
        try clear hx646_1
        try clear hx647_0
        try clear p2
        try clear p646
        try clear p647
        try clear q646
        try clear q647
        obtain ⟨kq, x7_20, rfl, HA, HJ20, HO_644001, BK643, HB⟩ := hcut
        cases kq with
        | zero => exact absurd HA.out (by simp [warrantorlaw09_ZoneBoxes.j2])
        | succ kj20 =>
          have H := HA.out
          clear HA
          simp only [warrantorlaw09_ZoneBoxes.j2] at H
          replace H := yes_ H
          obtain ⟨c35, H⟩ := H
          have c35b0 : (t642 == 0) = true := beq_iff_eq.mpr c35
          have c35b1 : (t642 != 0) = false := bne_eq_false_iff_eq.mpr c35
          clear c35
          replace H := bd_ H
          obtain ⟨⟨t649, t650⟩, A36, H⟩ := H
          (try dsimp only at H)
          replace H := bd_ H
          obtain ⟨t653, A37, H⟩ := H
          (try dsimp only at H)
          replace H := yes_ H
          obtain ⟨c38, H⟩ := H
          subst c38
          replace H := bd_ H
          obtain ⟨t654, A39, H⟩ := H
          (try dsimp only at H)
          by_cases c40 : (t654 != x7_20) = true
          · rw [if_pos c40] at H
            exact absurd H (by simp)
          rw [if_neg c40] at H
          have c40b0 : (t654 != x7_20) = false := by simpa using c40
          (try (have c40b1 : decide (t654 = x7_20) = true := by simpa using c40))
          (try (have c40b2 : (t654 == x7_20) = true := by simpa using c40))
          clear c40
          have H' := Aside0.mk H
          clear H
          try go_wp2
          have n_ := a_ (Aside0.mk (Kd.R_drew HO_644001.out)) (a_ (Aside0.mk (blk_drew BK643.out)) (Aside0.mk (below_drew1 HB.out)))
          clear HO_644001 BK643 HB
          obtain ⟨HO_644001, BK643, HB⟩ := n_
          refine start_ (n := 16) (S := fun w' => w'.cell? ⟨gb643, 0, none⟩ = some (.int .i64 t638) ∧ w'.cell? ⟨gb643, 1, none⟩ = some (.slice Ao25 t639.length co25)) (ds := []) #[false, false, false, false, false, false, false, false, false, false, false, false, false, false, false, false] (by kernel_rfl) rfl rfl ⟨(blk_cell BK643.out 0).trans rfl, (blk_cell BK643.out 1).trans rfl⟩ (fun hHeld => ?_); refine with_tabW warrantorlaw09_ZoneBoxes.tab13 warrantorlaw09_ZoneBoxes.bits13 (fun HT_ HW_ => ?_)
          generalize wc.drew = w41 at HO_644001 BK643 HB hHeld ⊢
          refine pu_ 0 (some 67) ?_
          refine pu_ 1 (some 68) ?_
          refine pu_ 2 (some 69) ?_
          refine pu_ 4 (some 71) ?_
          refine take_ (i := 3) (N := some 70) (v := ?_) (a' := ?_) #[true, true, true, true, true, false, false, false, false, false, false, false, false, false, false, false] rfl rfl (take_ofW HT_.out HW_.out (by kernel_rfl)) (fun _ _ _ h => h) (Or.inl ⟨by rfl, ?_⟩) hHeld ?_ ?_
          rotate_left
          · rintro w' ⟨s0, s1⟩
            go_simp
            with_reducible rfl
          rotate_left
          · exact AP_
          refine on_ 5 (some 72) (fun K hK => ?_)
          refine goes_ Try.func51 (by kernel_rfl) rfl #[.slice A0 l0.length c0] (by rfl) rfl rfl MP_ ?_
          with_reducible refine (warrantorref09_Box.calls kj20 _ _ l0 t649 t650 _ ?side1 ?side2 A36.out).mono ?_
          (case side1 => exact sd_ (Kd.C_below HR0.out HB.out))
          (case side2 => exact HC0.out)
          rintro e w42 ⟨v651, rfl, ho0, hb⟩
          refine ⟨_, rfl, ?_⟩
          have n_ := a_ (rb_ HO_644001 hb) (a_ (Aside0.mk (Kd.V_lower (Kd.V_mono (ok' := fun k_ => some k_ ≠ (.slice Ao25 t639.length co25 : Value).ownBlock ∧ k_ ≠ gb643) ho0 (fun k_ hk_ => ⟨(Kd.fresh' (Kd.R_lt (rd_ HO_644001.out)) k_ hk_), (Kd.freshB (g := gb643) (o := .cells #[.int .i64 t638, .slice Ao25 t639.length co25] 24 (0, 0)) (bk_ BK643.out) k_ hk_)⟩)) (below_size HB_))) (a_ (bb_ BK643 hb) (bs_ HB hb)))
          clear HO_644001 BK643 HB
          obtain ⟨HO_644001, HO652, BK643, HB⟩ := n_
          (try clear hb)
          (try clear hb2)
          (try clear hk)
          (try clear hi)
          (try clear ho0)
          obtain ⟨Ao43, co43, eo43⟩ := Kd.V_slice HO652.out
          (first | subst eo43 | (injection eo43 with f1_ f2_ f3_; have f4_ := f1_.symm; have f5_ := f3_.symm; clear f1_ f2_ f3_; subst f4_; subst f5_))
          refine hK.out _ _ ⟨(blk_cell BK643.out 0).trans rfl, (blk_cell BK643.out 1).trans rfl⟩ (fun hHeld => ?_)
          clear hK K
          refine nm_ ?_
          refine on_ 6 (some 73) (fun K hK => ?_)
          refine goes_ Try.func17 (by kernel_rfl) rfl #[.agg #[.int .i64 t638, .slice Ao25 t639.length co25], .agg #[.int .i64 t649, .slice Ao43 t650.length co43]] (by rfl) rfl rfl MP_ ?_
          with_reducible refine (warrantorref08_Same.calls kj20 t638 _ _ t639 t649 _ _ t650 true _ ?side1 ?side2 ?side3 ?side4 A37.out).mono ?_
          (case side1 => repeat (first | exact (Kd.R_reads' HO_644001.out).2.2 | (with_reducible refine Kd.C_alloc ?_ _) | (with_reducible refine Kd.C_drewN ?_ _) | (with_reducible refine Kd.C_drew ?_)))
          (case side2 => exact (Kd.R_reads' HO_644001.out).2.1)
          (case side3 => repeat (first | exact (Kd.V_reads' HO652.out).2.2 | (with_reducible refine Kd.C_alloc ?_ _) | (with_reducible refine Kd.C_drewN ?_ _) | (with_reducible refine Kd.C_drew ?_)))
          (case side4 => exact (Kd.V_reads' HO652.out).2.1)
          rintro e w44 ⟨rfl, hb⟩
          refine ⟨_, rfl, ?_⟩
          have n_ := a_ (rb_ HO_644001 hb) (a_ (Aside0.mk (Kd.V_below (by (with_reducible repeat (first | apply Kd.V_alloc | apply Kd.V_drewN | apply Kd.V_drew)); exact HO652.out) hb)) (a_ (bb_ BK643 hb) (bs_ HB hb)))
          clear HO_644001 HO652 BK643 HB
          obtain ⟨HO_644001, HO652, BK643, HB⟩ := n_
          (try clear hb)
          (try clear hb2)
          (try clear hk)
          (try clear hi)
          refine hK.out _ _ ⟨(blk_cell BK643.out 0).trans rfl, (blk_cell BK643.out 1).trans rfl⟩ (fun hHeld => ?_)
          clear hK K
          refine nm_ ?_
          refine pu_ 7 (some 74) ?_
          refine pu_ 8 (some 75) ?_
          refine pu_ 9 (some 76) ?_
          refine pu_ 11 (some 78) ?_
          refine pu_ 13 (some 80) ?_
          refine take_ (i := 10) (N := some 77) (v := ?_) (a' := ?_) #[true, true, true, true, true, true, true, true, true, true, true, true, false, true, false, false] rfl rfl (take_ofW HT_.out HW_.out (by kernel_rfl)) (fun _ _ _ h => h) (Or.inl ⟨by rfl, ?_⟩) hHeld ?_ ?_
          rotate_left
          · rintro w' ⟨s0, s1⟩
            go_simp
            with_reducible rfl
          rotate_left
          · exact AP_
          refine on_ 12 (some 79) (fun K hK => ?_)
          refine goes_ Try.func45 (by kernel_rfl) rfl #[.agg #[.int .i64 t638, .slice Ao25 t639.length co25], .slice A1 l1.length c1] (by rfl) rfl rfl MP_ ?_
          with_reducible refine (dbm_Has.calls kj20 t638 _ _ t639 _ _ l1 t654 _ ?side1 ?side2 ?side3 ?side4 A39.out).mono ?_
          (case side1 => repeat (first | exact (Kd.R_reads' HO_644001.out).2.2 | (with_reducible refine Kd.C_alloc ?_ _) | (with_reducible refine Kd.C_drewN ?_ _) | (with_reducible refine Kd.C_drew ?_)))
          (case side2 => exact (Kd.R_reads' HO_644001.out).2.1)
          (case side3 => exact sd_ (Kd.C_below HR1.out HB.out))
          (case side4 => exact HC1.out)
          rintro e w45 ⟨rfl, hb⟩
          refine ⟨_, rfl, ?_⟩
          have n_ := a_ (rb_ HO_644001 hb) (a_ (Aside0.mk (Kd.V_below (by (with_reducible repeat (first | apply Kd.V_alloc | apply Kd.V_drewN | apply Kd.V_drew)); exact HO652.out) hb)) (a_ (bb_ BK643 hb) (bs_ HB hb)))
          clear HO_644001 HO652 BK643 HB
          obtain ⟨HO_644001, HO652, BK643, HB⟩ := n_
          (try clear hb)
          (try clear hb2)
          (try clear hk)
          (try clear hi)
          refine hK.out _ _ ⟨(blk_cell BK643.out 0).trans rfl, (blk_cell BK643.out 1).trans rfl⟩ (fun hHeld => ?_)
          clear hK K
          refine nm_ ?_
          refine pu_ 14 (some 81) ?_
          refine pu_ 15 (some 82) ?_
          refine done_ (done_of HT_.out (by kernel_rfl)) ?_
          try go_wp2
          go_loopg [9] kj20 (fun kq v9 w' => ∃ (x9_3 : Int), v9 = .int .i64 x9_3 ∧ Aside0 (warrantorlaw09_ZoneBoxes.l1 kq l0 x9_3 t638 t639 = some r) ∧ Aside0 (kq ≤ kj20) ∧ Aside0 (Kd.R (Kd.int .i64) 3 w' w.heap.size (fun _ => True) (.slice Ao25 t639.length co25) t639) ∧ Aside0 (w'.heap[gb643]? = some (.cells #[.int .i64 t638, (.slice Ao25 t639.length co25)] 24 (0, 0))) ∧ Aside0 (Below w.heap.size w w'))
          case atStart => exact ⟨(0), (by first | rfl | (simp; done) | (simp [*]; done)), H', ⟨Nat.le_refl _⟩, ⟨by (with_reducible repeat (first | apply Kd.R_alloc | apply Kd.R_drewN | apply Kd.R_drew)); exact HO_644001.out⟩, ⟨by (with_reducible repeat (first | refine blk_drewN ?_ _ | refine blk_drew ?_ | refine blk_alloc ?_ _)); exact BK643.out⟩, ⟨HB_⟩⟩
          case round =>
            clear H'
            try clear c1
            try clear c2
            try clear p2
            try clear c3
            try clear c4
            try clear c4b0
            try clear c4b1
            try clear c5
            try clear p6
            try clear q6
            try clear hx6
            try clear c9
            try clear c10
            try clear c11
            try clear c11b0
            try clear c11b1
            try clear c12
            try clear c12b0
            try clear c12b1
            try clear c17
            try clear c22
            try clear c27
            try clear c27b0
            try clear c28
            try clear c28b0
            try clear c29
            try clear c30
            try clear c30b0
            try clear c35
            try clear c35b0
            try clear c35b1
            try clear c38
            try clear c40
            try clear c40b0
            try clear c40b1
            try clear c40b2
            try clear c45
            try clear hcz16_0
            try clear hcz16_1
            try clear hcz19_0
            try clear hcz19_1
            try clear hcz24_0
            try clear hcz24_1
            try clear hfz16_0
            try clear hfz16_1
            try clear hfz19_0
            try clear hfz19_1
            try clear hfz24_0
            try clear hfz24_1
            try clear hx646_0
            try clear hx646_1
            try clear hx647_0
            try clear p2
            try clear p6
            try clear p646
            try clear p647
            try clear q6
            try clear q646
            try clear q647
            obtain ⟨x9_3, rfl, HA, HK3, HO_644001, BK643, HB⟩ := hrel
            cases gk with
            | zero => exact absurd HA.out (by simp [warrantorlaw09_ZoneBoxes.l1])
            | succ k3 =>
              have H := HA.out
              clear HA
              simp only [warrantorlaw09_ZoneBoxes.l1] at H
              by_cases c46 : x9_3 < (l0.length : Int)
              rotate_left
              · rw [if_neg c46] at H
                have c46b0 : decide (x9_3 < (l0.length : Int)) = false := decide_eq_false c46
                clear c46
                obtain rfl := Option.some.inj H
                go_wp2
                go_ret
                exact ⟨by first | rfl | (simp [errW_none, errW_some] <;> rfl) | (simp [*, errW_none, errW_some] <;> rfl), HB_⟩
              rw [if_pos c46] at H
              have c46b0 : decide (x9_3 < (l0.length : Int)) = true := decide_eq_true c46
              clear c46
              replace H := bd_ H
              obtain ⟨⟨t655, t656, t657⟩, A47, H⟩ := H
              (try dsimp only at H)
              replace H := yes_ H
              obtain ⟨c48, H⟩ := H
              have c48b0 : (t657 == 0) = true := beq_iff_eq.mpr c48
              have c48b1 : (t657 != 0) = false := bne_eq_false_iff_eq.mpr c48
              clear c48
              replace H := bd_ H
              obtain ⟨t659, A49, H⟩ := H
              (try dsimp only at H)
              by_cases c50 : t659 = true
              · subst c50
                replace H := ps1_ H
                replace H := bd_ H
                obtain ⟨t660, A51, H⟩ := H
                (try dsimp only at H)
                by_cases c52 : t660 = true
                rotate_left
                · replace c52 := Bool.eq_false_iff.mpr c52
                  subst c52
                  replace H := ng1_ H
                  have H' := Aside0.mk H
                  clear H
                  obtain ⟨hcz65_0, hcz65_1, hfz65_0, hfz65_1⟩ := cz2_ BK643
                  try go_wp2_with (first | ((with_reducible refine gate_callee (f := 26) rfl ?_); refine goesL_ (some 93) rfl rfl Try.func26 (by kernel_rfl) rfl #[.agg #[.int .i64 t638, .slice Ao25 t639.length co25], .int .i64 (wrap64 (x9_3 + 1))] rfl MP_ ?_; (with_reducible refine (zone_Itv.calls k3 t638 _ _ t639 (wrap64 (x9_3 + 1)) t655 t656 t657 _ ?side1 ?side2 A47.out).mono ?_); (case side1 => repeat (first | exact (Kd.R_reads' HO_644001.out).2.2 | (with_reducible refine Kd.C_alloc ?_ _) | (with_reducible refine Kd.C_drewN ?_ _) | (with_reducible refine Kd.C_drew ?_))); (case side2 => exact (Kd.R_reads' HO_644001.out).2.1); rintro e w66 ⟨rfl, hb⟩; refine ⟨_, rfl, ?_⟩; have n_ := a_ (rb_ HO_644001 hb) (a_ (bb_ BK643 hb) (bs_ HB hb)); clear HO_644001 BK643 HB; obtain ⟨HO_644001, BK643, HB⟩ := n_; (try clear hb); (try clear hb2); (try clear hk); (try clear hi)) | ((with_reducible refine gate_dst (N := 10) rfl ?_); (try (refine gate_guard (by rfl) ?_; dsimp only)); refine bx_ (N := 10) (cs := #[.int .i64 0, .int .i64 0]) (t := 39) ?_; intro gb658 hg w67 hbox hb; have n_ := a_ (rb_ HO_644001 hb) (a_ (bb_ BK643 hb) (a_ (bs_ HB hb) (a_ (Aside0.mk hbox) (a_ (gs_ HB hg) (a_ (gs_ HB hg) (a_ (nl_ BK643 hg) (ng_ BK643 hg))))))); clear HO_644001 BK643 HB; obtain ⟨HO_644001, BK643, HB, BK658, GW658, GE658, NB643_658, NB658_643⟩ := n_; clear hb hbox hg; have hnb68 := NB658_643.out; have hnc68 := NB643_658.out; obtain ⟨hcz69_0, hcz69_1, hfz69_0, hfz69_1⟩ := cz2_ BK658))
                  have n0_ : Aside0 (Kd.R (Kd.int .i64) 3 ((w67.setCell ⟨gb658, 0, none⟩ (.int .i64 t655)).setCell ⟨gb658, 1, none⟩ (.int .i64 t656)) w.heap.size (fun _ => True) (.slice Ao25 t639.length co25) t639) := ⟨by (with_reducible repeat (first | apply Kd.R_alloc | apply Kd.R_drewN | apply Kd.R_drew)); exact Kd.R_mono (Kd.R_far (p := ⟨gb658, 1, none⟩) (Kd.R_far (p := ⟨gb658, 0, none⟩) (Kd.R_types HO_644001.out BK658.out (by decide)) (fun _ hk => hk.2) (.int .i64 t655)) (fun _ hk => hk.2) (.int .i64 t656)) (fun _ hk => trivial)⟩
                  have n1_ : Aside0 (((w67.setCell ⟨gb658, 0, none⟩ (.int .i64 t655)).setCell ⟨gb658, 1, none⟩ (.int .i64 t656)).heap[gb643]? = some (.cells #[.int .i64 t638, .slice Ao25 t639.length co25] 24 (0, 0))) := ⟨by (with_reducible repeat (first | refine blk_drewN ?_ _ | refine blk_drew ?_ | refine blk_alloc ?_ _)); refine blk_far ?_ NB643_658.out _; (with_reducible repeat (first | refine blk_drewN ?_ _ | refine blk_drew ?_ | refine blk_alloc ?_ _)); refine blk_far ?_ NB643_658.out _; (with_reducible repeat (first | refine blk_drewN ?_ _ | refine blk_drew ?_ | refine blk_alloc ?_ _)); exact BK643.out⟩
                  have n2_ : Aside0 (((w67.setCell ⟨gb658, 0, none⟩ (.int .i64 t655)).setCell ⟨gb658, 1, none⟩ (.int .i64 t656)).heap[gb658]? = some (.cells #[.int .i64 t655, .int .i64 t656] 39 (0, 0))) := ⟨by (with_reducible repeat (first | refine blk_drewN ?_ _ | refine blk_drew ?_ | refine blk_alloc ?_ _)); refine blk_put (cs := #[.int .i64 t655, .int .i64 0]) ?_ 1 _ rfl; (with_reducible repeat (first | refine blk_drewN ?_ _ | refine blk_drew ?_ | refine blk_alloc ?_ _)); refine blk_put (cs := #[.int .i64 0, .int .i64 0]) ?_ 0 _ rfl; (with_reducible repeat (first | refine blk_drewN ?_ _ | refine blk_drew ?_ | refine blk_alloc ?_ _)); exact BK658.out⟩
                  have n3_ : Aside0 (Below w.heap.size w ((w67.setCell ⟨gb658, 0, none⟩ (.int .i64 t655)).setCell ⟨gb658, 1, none⟩ (.int .i64 t656))) := ⟨HB_⟩
                  (try clear HO_644001)
                  (try clear BK643)
                  (try clear BK658)
                  (try clear HB)
                  generalize ((w67.setCell ⟨gb658, 0, none⟩ (.int .i64 t655)).setCell ⟨gb658, 1, none⟩ (.int .i64 t656)) = w70 at n0_ n1_ n2_ n3_ ⊢
                  have HO_644001 := n0_
                  have BK643 := n1_
                  have BK658 := n2_
                  have HB := n3_
                  clear n0_ n1_ n2_ n3_
                  first | (obtain ⟨w70, hq_⟩ : ∃ x, x = w70.drewN nd := ⟨_, rfl⟩; rw [← hq_]; have q0_ := Aside0.mk (Kd.R_drewN HO_644001.out nd); rw [← hq_] at q0_; have q1_ := Aside0.mk (blk_drewN BK643.out nd); rw [← hq_] at q1_; have q2_ := Aside0.mk (blk_drewN BK658.out nd); rw [← hq_] at q2_; have q3_ := Aside0.mk (pw_below_drewN HB.out nd); rw [← hq_] at q3_; clear HO_644001; clear BK643; clear BK658; clear HB; have HO_644001 := q0_; have BK643 := q1_; have BK658 := q2_; have HB := q3_; clear hq_ q0_ q1_ q2_ q3_) | skip
                  have n_ := a_ (Aside0.mk (Kd.R_drew HO_644001.out)) (a_ (Aside0.mk (blk_drew BK643.out)) (a_ (Aside0.mk (blk_drew BK658.out)) (Aside0.mk (below_drew1 HB.out))))
                  clear HO_644001 BK643 BK658 HB
                  obtain ⟨HO_644001, BK643, BK658, HB⟩ := n_
                  refine start_ (n := 25) (S := fun w' => w'.cell? ⟨gb643, 0, none⟩ = some (.int .i64 t638) ∧ w'.cell? ⟨gb643, 1, none⟩ = some (.slice Ao25 t639.length co25)) (ds := []) #[false, false, false, false, false, false, false, false, false, false, false, false, false, false, false, false, false, false, false, false, false, false, false, false, false] (by kernel_rfl) rfl rfl ⟨(blk_cell BK643.out 0).trans rfl, (blk_cell BK643.out 1).trans rfl⟩ (fun hHeld => ?_); refine with_tabW warrantorlaw09_ZoneBoxes.tab19 warrantorlaw09_ZoneBoxes.bits19 (fun HT_ HW_ => ?_)
                  generalize w70.drew = w71 at HO_644001 BK643 BK658 HB hHeld ⊢
                  refine pu_ 0 (some 96) ?_
                  refine pu_ 1 (some 97) ?_
                  refine pu_ 2 (some 98) ?_
                  refine take_ (i := 3) (N := some 99) (v := ?_) (a' := ?_) #[true, true, true, true, false, false, false, false, false, false, false, false, false, false, false, false, false, false, false, false, false, false, false, false, false] rfl rfl (take_ofW HT_.out HW_.out (by kernel_rfl)) (fun _ _ _ h => h) (Or.inl ⟨by rfl, ?_⟩) hHeld ?_ ?_
                  rotate_left
                  · rintro w' ⟨s0, s1⟩
                    go_simp
                    with_reducible rfl
                  rotate_left
                  · exact AP_
                  refine on_ 4 (some 100) (fun K hK => ?_)
                  refine goes_ Try.func52 (by kernel_rfl) rfl #[.agg #[.int .i64 t638, .slice Ao25 t639.length co25]] (by rfl) rfl rfl MP_ ?_
                  with_reducible refine (dbm_Empty.calls k3 t638 _ _ t639 true _ ?side1 ?side2 A49.out).mono ?_
                  (case side1 => repeat (first | exact (Kd.R_reads' HO_644001.out).2.2 | (with_reducible refine Kd.C_alloc ?_ _) | (with_reducible refine Kd.C_drewN ?_ _) | (with_reducible refine Kd.C_drew ?_)))
                  (case side2 => exact (Kd.R_reads' HO_644001.out).2.1)
                  rintro e w72 ⟨rfl, hb⟩
                  refine ⟨_, rfl, ?_⟩
                  have n_ := a_ (rb_ HO_644001 hb) (a_ (bb_ BK643 hb) (a_ (bb_ BK658 hb) (bs_ HB hb)))
                  clear HO_644001 BK643 BK658 HB
                  obtain ⟨HO_644001, BK643, BK658, HB⟩ := n_
                  (try clear hb)
                  (try clear hb2)
                  (try clear hk)
                  (try clear hi)
                  refine hK.out _ _ ⟨(blk_cell BK643.out 0).trans rfl, (blk_cell BK643.out 1).trans rfl⟩ (fun hHeld => ?_)
                  clear hK K
                  refine nm_ ?_
                  refine pu_ 5 (some 101) ?_
                  refine pu_ 6 (some 102) ?_
                  refine pv_ 7 (some 103) ?_
                  refine pv_ 8 (some 104) ?_
                  refine pv_ 9 (some 105) ?_
                  refine pv_ 10 (some 106) ?_
                  refine pv_ 11 (some 107) ?_
                  refine pv_ 12 (some 108) ?_
                  refine pv_ 13 (some 109) ?_
                  refine pu_ 14 (some 110) ?_
                  refine pu_ 15 (some 111) ?_
                  refine pu_ 16 (some 112) ?_
                  refine take_ (i := 17) (N := some 113) (v := ?_) (a' := ?_) #[true, true, true, true, true, true, true, true, true, true, true, true, true, true, true, true, true, true, false, false, false, false, false, false, false] rfl rfl (take_ofW HT_.out HW_.out (by kernel_rfl)) (fun _ _ _ h => h) (Or.inl ⟨by rfl, ?_⟩) hHeld ?_ ?_
                  rotate_left
                  · rintro w' ⟨s0, s1⟩
                    go_simp
                    with_reducible rfl
                  rotate_left
                  · exact AP_
                  refine on_ 18 (some 114) (fun K hK => ?_)
                  refine goes_ Try.func52 (by kernel_rfl) rfl #[.agg #[.int .i64 t638, .slice Ao25 t639.length co25]] (by rfl) rfl rfl MP_ ?_
                  with_reducible refine (dbm_Empty.calls k3 t638 _ _ t639 false _ ?side1 ?side2 A51.out).mono ?_
                  (case side1 => repeat (first | exact (Kd.R_reads' HO_644001.out).2.2 | (with_reducible refine Kd.C_alloc ?_ _) | (with_reducible refine Kd.C_drewN ?_ _) | (with_reducible refine Kd.C_drew ?_)))
                  (case side2 => exact (Kd.R_reads' HO_644001.out).2.1)
                  rintro e w73 ⟨rfl, hb⟩
                  refine ⟨_, rfl, ?_⟩
                  have n_ := a_ (rb_ HO_644001 hb) (a_ (bb_ BK643 hb) (a_ (bb_ BK658 hb) (bs_ HB hb)))
                  clear HO_644001 BK643 BK658 HB
                  obtain ⟨HO_644001, BK643, BK658, HB⟩ := n_
                  (try clear hb)
                  (try clear hb2)
                  (try clear hk)
                  (try clear hi)
                  refine hK.out _ _ ⟨(blk_cell BK643.out 0).trans rfl, (blk_cell BK643.out 1).trans rfl⟩ (fun hHeld => ?_)
                  clear hK K
                  refine nm_ ?_
                  refine pu_ 19 (some 115) ?_
                  refine pv_ 20 (some 116) ?_
                  refine pv_ 21 (some 117) ?_
                  refine pv_ 22 (some 118) ?_
                  refine pu_ 23 (some 119) ?_
                  refine pu_ 24 (some 120) ?_
                  refine done_ (done_of HT_.out (by kernel_rfl)) ?_
                  try go_wp2
                  go_roundg k3
                  case measure => have := HJ2.out; have := HJ20.out; have := HK3.out; omega
                  case rel => exact ⟨(wrap64 (x9_3 + 1)), (by first | rfl | (simp; done) | (simp [*]; done)), H', ⟨by have := HJ2.out; have := HJ20.out; have := HK3.out; omega⟩, ⟨by (with_reducible repeat (first | apply Kd.R_alloc | apply Kd.R_drewN | apply Kd.R_drew)); exact HO_644001.out⟩, ⟨by (with_reducible repeat (first | refine blk_drewN ?_ _ | refine blk_drew ?_ | refine blk_alloc ?_ _)); exact BK643.out⟩, ⟨HB_⟩⟩
                subst c52
                replace H := ps1_ H
                replace H := bd_ H
                obtain ⟨⟨t661, t662⟩, A53, H⟩ := H
                (try dsimp only at H)
                by_cases c54 : (!(t655 == t661) || (!(t656 == t662))) = true
                · rw [if_pos c54] at H
                  exact absurd H (by simp)
                rw [if_neg c54] at H
                have c54b0 : (!(t655 == t661) || (!(t656 == t662))) = false := by simpa using c54
                clear c54
                have H' := Aside0.mk H
                clear H
                obtain ⟨hcz55_0, hcz55_1, hfz55_0, hfz55_1⟩ := cz2_ BK643
                try go_wp2_with (first | ((with_reducible refine gate_callee (f := 26) rfl ?_); refine goesL_ (some 93) rfl rfl Try.func26 (by kernel_rfl) rfl #[.agg #[.int .i64 t638, .slice Ao25 t639.length co25], .int .i64 (wrap64 (x9_3 + 1))] rfl MP_ ?_; (with_reducible refine (zone_Itv.calls k3 t638 _ _ t639 (wrap64 (x9_3 + 1)) t655 t656 t657 _ ?side1 ?side2 A47.out).mono ?_); (case side1 => repeat (first | exact (Kd.R_reads' HO_644001.out).2.2 | (with_reducible refine Kd.C_alloc ?_ _) | (with_reducible refine Kd.C_drewN ?_ _) | (with_reducible refine Kd.C_drew ?_))); (case side2 => exact (Kd.R_reads' HO_644001.out).2.1); rintro e w56 ⟨rfl, hb⟩; refine ⟨_, rfl, ?_⟩; have n_ := a_ (rb_ HO_644001 hb) (a_ (bb_ BK643 hb) (bs_ HB hb)); clear HO_644001 BK643 HB; obtain ⟨HO_644001, BK643, HB⟩ := n_; (try clear hb); (try clear hb2); (try clear hk); (try clear hi)) | ((with_reducible refine gate_dst (N := 10) rfl ?_); (try (refine gate_guard (by rfl) ?_; dsimp only)); refine bx_ (N := 10) (cs := #[.int .i64 0, .int .i64 0]) (t := 39) ?_; intro gb658 hg w57 hbox hb; have n_ := a_ (rb_ HO_644001 hb) (a_ (bb_ BK643 hb) (a_ (bs_ HB hb) (a_ (Aside0.mk hbox) (a_ (gs_ HB hg) (a_ (gs_ HB hg) (a_ (nl_ BK643 hg) (ng_ BK643 hg))))))); clear HO_644001 BK643 HB; obtain ⟨HO_644001, BK643, HB, BK658, GW658, GE658, NB643_658, NB658_643⟩ := n_; clear hb hbox hg; have hnb58 := NB658_643.out; have hnc58 := NB643_658.out; obtain ⟨hcz59_0, hcz59_1, hfz59_0, hfz59_1⟩ := cz2_ BK658))
                have n0_ : Aside0 (Kd.R (Kd.int .i64) 3 ((w57.setCell ⟨gb658, 0, none⟩ (.int .i64 t655)).setCell ⟨gb658, 1, none⟩ (.int .i64 t656)) w.heap.size (fun _ => True) (.slice Ao25 t639.length co25) t639) := ⟨by (with_reducible repeat (first | apply Kd.R_alloc | apply Kd.R_drewN | apply Kd.R_drew)); exact Kd.R_mono (Kd.R_far (p := ⟨gb658, 1, none⟩) (Kd.R_far (p := ⟨gb658, 0, none⟩) (Kd.R_types HO_644001.out BK658.out (by decide)) (fun _ hk => hk.2) (.int .i64 t655)) (fun _ hk => hk.2) (.int .i64 t656)) (fun _ hk => trivial)⟩
                have n1_ : Aside0 (((w57.setCell ⟨gb658, 0, none⟩ (.int .i64 t655)).setCell ⟨gb658, 1, none⟩ (.int .i64 t656)).heap[gb643]? = some (.cells #[.int .i64 t638, .slice Ao25 t639.length co25] 24 (0, 0))) := ⟨by (with_reducible repeat (first | refine blk_drewN ?_ _ | refine blk_drew ?_ | refine blk_alloc ?_ _)); refine blk_far ?_ NB643_658.out _; (with_reducible repeat (first | refine blk_drewN ?_ _ | refine blk_drew ?_ | refine blk_alloc ?_ _)); refine blk_far ?_ NB643_658.out _; (with_reducible repeat (first | refine blk_drewN ?_ _ | refine blk_drew ?_ | refine blk_alloc ?_ _)); exact BK643.out⟩
                have n2_ : Aside0 (((w57.setCell ⟨gb658, 0, none⟩ (.int .i64 t655)).setCell ⟨gb658, 1, none⟩ (.int .i64 t656)).heap[gb658]? = some (.cells #[.int .i64 t655, .int .i64 t656] 39 (0, 0))) := ⟨by (with_reducible repeat (first | refine blk_drewN ?_ _ | refine blk_drew ?_ | refine blk_alloc ?_ _)); refine blk_put (cs := #[.int .i64 t655, .int .i64 0]) ?_ 1 _ rfl; (with_reducible repeat (first | refine blk_drewN ?_ _ | refine blk_drew ?_ | refine blk_alloc ?_ _)); refine blk_put (cs := #[.int .i64 0, .int .i64 0]) ?_ 0 _ rfl; (with_reducible repeat (first | refine blk_drewN ?_ _ | refine blk_drew ?_ | refine blk_alloc ?_ _)); exact BK658.out⟩
                have n3_ : Aside0 (Below w.heap.size w ((w57.setCell ⟨gb658, 0, none⟩ (.int .i64 t655)).setCell ⟨gb658, 1, none⟩ (.int .i64 t656))) := ⟨HB_⟩
                (try clear HO_644001)
                (try clear BK643)
                (try clear BK658)
                (try clear HB)
                generalize ((w57.setCell ⟨gb658, 0, none⟩ (.int .i64 t655)).setCell ⟨gb658, 1, none⟩ (.int .i64 t656)) = w60 at n0_ n1_ n2_ n3_ ⊢
                have HO_644001 := n0_
                have BK643 := n1_
                have BK658 := n2_
                have HB := n3_
                clear n0_ n1_ n2_ n3_
                first | (obtain ⟨w60, hq_⟩ : ∃ x, x = w60.drewN nd := ⟨_, rfl⟩; rw [← hq_]; have q0_ := Aside0.mk (Kd.R_drewN HO_644001.out nd); rw [← hq_] at q0_; have q1_ := Aside0.mk (blk_drewN BK643.out nd); rw [← hq_] at q1_; have q2_ := Aside0.mk (blk_drewN BK658.out nd); rw [← hq_] at q2_; have q3_ := Aside0.mk (pw_below_drewN HB.out nd); rw [← hq_] at q3_; clear HO_644001; clear BK643; clear BK658; clear HB; have HO_644001 := q0_; have BK643 := q1_; have BK658 := q2_; have HB := q3_; clear hq_ q0_ q1_ q2_ q3_) | skip
                have n_ := a_ (Aside0.mk (Kd.R_drew HO_644001.out)) (a_ (Aside0.mk (blk_drew BK643.out)) (a_ (Aside0.mk (blk_drew BK658.out)) (Aside0.mk (below_drew1 HB.out))))
                clear HO_644001 BK643 BK658 HB
                obtain ⟨HO_644001, BK643, BK658, HB⟩ := n_
                refine start_ (n := 25) (S := fun w' => w'.cell? ⟨gb643, 0, none⟩ = some (.int .i64 t638) ∧ w'.cell? ⟨gb643, 1, none⟩ = some (.slice Ao25 t639.length co25) ∧ w'.cell? ⟨gb658, 0, none⟩ = some (.int .i64 t655) ∧ w'.cell? ⟨gb658, 1, none⟩ = some (.int .i64 t656)) (ds := []) #[false, false, false, false, false, false, false, false, false, false, false, false, false, false, false, false, false, false, false, false, false, false, false, false, false] (by kernel_rfl) rfl rfl ⟨(blk_cell BK643.out 0).trans rfl, (blk_cell BK643.out 1).trans rfl, (blk_cell BK658.out 0).trans rfl, (blk_cell BK658.out 1).trans rfl⟩ (fun hHeld => ?_); refine with_tabW warrantorlaw09_ZoneBoxes.tab19 warrantorlaw09_ZoneBoxes.bits19 (fun HT_ HW_ => ?_)
                generalize w60.drew = w61 at HO_644001 BK643 BK658 HB hHeld ⊢
                refine pu_ 0 (some 96) ?_
                refine pu_ 1 (some 97) ?_
                refine pu_ 2 (some 98) ?_
                refine take_ (i := 3) (N := some 99) (v := ?_) (a' := ?_) #[true, true, true, true, false, false, false, false, false, false, false, false, false, false, false, false, false, false, false, false, false, false, false, false, false] rfl rfl (take_ofW HT_.out HW_.out (by kernel_rfl)) (fun _ _ _ h => h) (Or.inl ⟨by rfl, ?_⟩) hHeld ?_ ?_
                rotate_left
                · rintro w' ⟨s0, s1, s2, s3⟩
                  go_simp
                  with_reducible rfl
                rotate_left
                · exact AP_
                refine on_ 4 (some 100) (fun K hK => ?_)
                refine goes_ Try.func52 (by kernel_rfl) rfl #[.agg #[.int .i64 t638, .slice Ao25 t639.length co25]] (by rfl) rfl rfl MP_ ?_
                with_reducible refine (dbm_Empty.calls k3 t638 _ _ t639 true _ ?side1 ?side2 A49.out).mono ?_
                (case side1 => repeat (first | exact (Kd.R_reads' HO_644001.out).2.2 | (with_reducible refine Kd.C_alloc ?_ _) | (with_reducible refine Kd.C_drewN ?_ _) | (with_reducible refine Kd.C_drew ?_)))
                (case side2 => exact (Kd.R_reads' HO_644001.out).2.1)
                rintro e w62 ⟨rfl, hb⟩
                refine ⟨_, rfl, ?_⟩
                have n_ := a_ (rb_ HO_644001 hb) (a_ (bb_ BK643 hb) (a_ (bb_ BK658 hb) (bs_ HB hb)))
                clear HO_644001 BK643 BK658 HB
                obtain ⟨HO_644001, BK643, BK658, HB⟩ := n_
                (try clear hb)
                (try clear hb2)
                (try clear hk)
                (try clear hi)
                refine hK.out _ _ ⟨(blk_cell BK643.out 0).trans rfl, (blk_cell BK643.out 1).trans rfl, (blk_cell BK658.out 0).trans rfl, (blk_cell BK658.out 1).trans rfl⟩ (fun hHeld => ?_)
                clear hK K
                refine nm_ ?_
                refine pu_ 5 (some 101) ?_
                refine pu_ 6 (some 102) ?_
                refine pv_ 7 (some 103) ?_
                refine pv_ 8 (some 104) ?_
                refine pv_ 9 (some 105) ?_
                refine pv_ 10 (some 106) ?_
                refine pv_ 11 (some 107) ?_
                refine pv_ 12 (some 108) ?_
                refine pv_ 13 (some 109) ?_
                refine pu_ 14 (some 110) ?_
                refine pu_ 15 (some 111) ?_
                refine pu_ 16 (some 112) ?_
                refine take_ (i := 17) (N := some 113) (v := ?_) (a' := ?_) #[true, true, true, true, true, true, true, true, true, true, true, true, true, true, true, true, true, true, false, false, false, false, false, false, false] rfl rfl (take_ofW HT_.out HW_.out (by kernel_rfl)) (fun _ _ _ h => h) (Or.inl ⟨by rfl, ?_⟩) hHeld ?_ ?_
                rotate_left
                · rintro w' ⟨s0, s1, s2, s3⟩
                  go_simp
                  with_reducible rfl
                rotate_left
                · exact AP_
                refine on_ 18 (some 114) (fun K hK => ?_)
                refine goes_ Try.func52 (by kernel_rfl) rfl #[.agg #[.int .i64 t638, .slice Ao25 t639.length co25]] (by rfl) rfl rfl MP_ ?_
                with_reducible refine (dbm_Empty.calls k3 t638 _ _ t639 true _ ?side1 ?side2 A51.out).mono ?_
                (case side1 => repeat (first | exact (Kd.R_reads' HO_644001.out).2.2 | (with_reducible refine Kd.C_alloc ?_ _) | (with_reducible refine Kd.C_drewN ?_ _) | (with_reducible refine Kd.C_drew ?_)))
                (case side2 => exact (Kd.R_reads' HO_644001.out).2.1)
                rintro e w63 ⟨rfl, hb⟩
                refine ⟨_, rfl, ?_⟩
                have n_ := a_ (rb_ HO_644001 hb) (a_ (bb_ BK643 hb) (a_ (bb_ BK658 hb) (bs_ HB hb)))
                clear HO_644001 BK643 BK658 HB
                obtain ⟨HO_644001, BK643, BK658, HB⟩ := n_
                (try clear hb)
                (try clear hb2)
                (try clear hk)
                (try clear hi)
                refine hK.out _ _ ⟨(blk_cell BK643.out 0).trans rfl, (blk_cell BK643.out 1).trans rfl, (blk_cell BK658.out 0).trans rfl, (blk_cell BK658.out 1).trans rfl⟩ (fun hHeld => ?_)
                clear hK K
                refine nm_ ?_
                refine pu_ 19 (some 115) ?_
                refine take_ (i := 20) (N := some 116) (v := ?_) (a' := ?_) #[true, true, true, true, true, true, true, true, true, true, true, true, true, true, true, true, true, true, true, true, true, false, false, false, false] rfl rfl (take_ofW HT_.out HW_.out (by kernel_rfl)) (fun _ _ _ h => h) (Or.inl ⟨by rfl, ?_⟩) hHeld ?_ ?_
                rotate_left
                · rintro w' ⟨s0, s1, s2, s3⟩
                  go_simp
                  with_reducible rfl
                rotate_left
                · exact AP_
                refine on_ 21 (some 117) (fun K hK => ?_)
                refine goes_ Try.func54 (by kernel_rfl) rfl #[] (by rfl) rfl rfl MP_ ?_
                with_reducible refine (warrantorref07_None.calls  t661 t662 _ A53.out).mono ?_
                rintro e w64 ⟨rfl, hb⟩
                refine ⟨_, rfl, ?_⟩
                have n_ := a_ (rb_ HO_644001 hb) (a_ (bb_ BK643 hb) (a_ (bb_ BK658 hb) (bs_ HB hb)))
                clear HO_644001 BK643 BK658 HB
                obtain ⟨HO_644001, BK643, BK658, HB⟩ := n_
                (try clear hb)
                (try clear hb2)
                (try clear hk)
                (try clear hi)
                refine hK.out _ _ ⟨(blk_cell BK643.out 0).trans rfl, (blk_cell BK643.out 1).trans rfl, (blk_cell BK658.out 0).trans rfl, (blk_cell BK658.out 1).trans rfl⟩ (fun hHeld => ?_)
                clear hK K
                refine nm_ ?_
                refine pu_ 22 (some 118) ?_
                refine pu_ 23 (some 119) ?_
                refine pu_ 24 (some 120) ?_
                refine done_ (done_of HT_.out (by kernel_rfl)) ?_
                try go_wp2
                go_roundg k3
                case measure => have := HJ2.out; have := HJ20.out; have := HK3.out; omega
                case rel => exact ⟨(wrap64 (x9_3 + 1)), (by first | rfl | (simp; done) | (simp [*]; done)), H', ⟨by have := HJ2.out; have := HJ20.out; have := HK3.out; omega⟩, ⟨by (with_reducible repeat (first | apply Kd.R_alloc | apply Kd.R_drewN | apply Kd.R_drew)); exact HO_644001.out⟩, ⟨by (with_reducible repeat (first | refine blk_drewN ?_ _ | refine blk_drew ?_ | refine blk_alloc ?_ _)); exact BK643.out⟩, ⟨HB_⟩⟩
              replace c50 := Bool.eq_false_iff.mpr c50
              subst c50
              replace H := ng1_ H
              replace H := yes_ H
              obtain ⟨c74, H⟩ := H
              have c74b0 : decide (0 ≤ x9_3) = true := decide_eq_true c74
              clear c74
              replace H := bd_ H
              obtain ⟨⟨t664, t665⟩, A75, H⟩ := H
              (try dsimp only at H)
              by_cases c76 : (!(t655 == t664) || (!(t656 == t665))) = true
              · rw [if_pos c76] at H
                exact absurd H (by simp)
              rw [if_neg c76] at H
              have c76b0 : (!(t655 == t664) || (!(t656 == t665))) = false := by simpa using c76
              clear c76
              replace H := bd_ H
              obtain ⟨t666, A77, H⟩ := H
              (try dsimp only at H)
              by_cases c78 : t666 = true
              rotate_left
              · replace c78 := Bool.eq_false_iff.mpr c78
                subst c78
                replace H := ng1_ H
                have H' := Aside0.mk H
                clear H
                obtain ⟨hcz92_0, hcz92_1, hfz92_0, hfz92_1⟩ := cz2_ BK643
                try go_wp2_with (first | ((with_reducible refine gate_callee (f := 26) rfl ?_); refine goesL_ (some 93) rfl rfl Try.func26 (by kernel_rfl) rfl #[.agg #[.int .i64 t638, .slice Ao25 t639.length co25], .int .i64 (wrap64 (x9_3 + 1))] rfl MP_ ?_; (with_reducible refine (zone_Itv.calls k3 t638 _ _ t639 (wrap64 (x9_3 + 1)) t655 t656 t657 _ ?side1 ?side2 A47.out).mono ?_); (case side1 => repeat (first | exact (Kd.R_reads' HO_644001.out).2.2 | (with_reducible refine Kd.C_alloc ?_ _) | (with_reducible refine Kd.C_drewN ?_ _) | (with_reducible refine Kd.C_drew ?_))); (case side2 => exact (Kd.R_reads' HO_644001.out).2.1); rintro e w93 ⟨rfl, hb⟩; refine ⟨_, rfl, ?_⟩; have n_ := a_ (rb_ HO_644001 hb) (a_ (bb_ BK643 hb) (bs_ HB hb)); clear HO_644001 BK643 HB; obtain ⟨HO_644001, BK643, HB⟩ := n_; (try clear hb); (try clear hb2); (try clear hk); (try clear hi)) | ((with_reducible refine gate_dst (N := 10) rfl ?_); (try (refine gate_guard (by rfl) ?_; dsimp only)); refine bx_ (N := 10) (cs := #[.int .i64 0, .int .i64 0]) (t := 39) ?_; intro gb658 hg w94 hbox hb; have n_ := a_ (rb_ HO_644001 hb) (a_ (bb_ BK643 hb) (a_ (bs_ HB hb) (a_ (Aside0.mk hbox) (a_ (gs_ HB hg) (a_ (gs_ HB hg) (a_ (nl_ BK643 hg) (ng_ BK643 hg))))))); clear HO_644001 BK643 HB; obtain ⟨HO_644001, BK643, HB, BK658, GW658, GE658, NB643_658, NB658_643⟩ := n_; clear hb hbox hg; have hnb95 := NB658_643.out; have hnc95 := NB643_658.out; obtain ⟨hcz96_0, hcz96_1, hfz96_0, hfz96_1⟩ := cz2_ BK658))
                have n0_ : Aside0 (Kd.R (Kd.int .i64) 3 ((w94.setCell ⟨gb658, 0, none⟩ (.int .i64 t655)).setCell ⟨gb658, 1, none⟩ (.int .i64 t656)) w.heap.size (fun _ => True) (.slice Ao25 t639.length co25) t639) := ⟨by (with_reducible repeat (first | apply Kd.R_alloc | apply Kd.R_drewN | apply Kd.R_drew)); exact Kd.R_mono (Kd.R_far (p := ⟨gb658, 1, none⟩) (Kd.R_far (p := ⟨gb658, 0, none⟩) (Kd.R_types HO_644001.out BK658.out (by decide)) (fun _ hk => hk.2) (.int .i64 t655)) (fun _ hk => hk.2) (.int .i64 t656)) (fun _ hk => trivial)⟩
                have n1_ : Aside0 (((w94.setCell ⟨gb658, 0, none⟩ (.int .i64 t655)).setCell ⟨gb658, 1, none⟩ (.int .i64 t656)).heap[gb643]? = some (.cells #[.int .i64 t638, .slice Ao25 t639.length co25] 24 (0, 0))) := ⟨by (with_reducible repeat (first | refine blk_drewN ?_ _ | refine blk_drew ?_ | refine blk_alloc ?_ _)); refine blk_far ?_ NB643_658.out _; (with_reducible repeat (first | refine blk_drewN ?_ _ | refine blk_drew ?_ | refine blk_alloc ?_ _)); refine blk_far ?_ NB643_658.out _; (with_reducible repeat (first | refine blk_drewN ?_ _ | refine blk_drew ?_ | refine blk_alloc ?_ _)); exact BK643.out⟩
                have n2_ : Aside0 (((w94.setCell ⟨gb658, 0, none⟩ (.int .i64 t655)).setCell ⟨gb658, 1, none⟩ (.int .i64 t656)).heap[gb658]? = some (.cells #[.int .i64 t655, .int .i64 t656] 39 (0, 0))) := ⟨by (with_reducible repeat (first | refine blk_drewN ?_ _ | refine blk_drew ?_ | refine blk_alloc ?_ _)); refine blk_put (cs := #[.int .i64 t655, .int .i64 0]) ?_ 1 _ rfl; (with_reducible repeat (first | refine blk_drewN ?_ _ | refine blk_drew ?_ | refine blk_alloc ?_ _)); refine blk_put (cs := #[.int .i64 0, .int .i64 0]) ?_ 0 _ rfl; (with_reducible repeat (first | refine blk_drewN ?_ _ | refine blk_drew ?_ | refine blk_alloc ?_ _)); exact BK658.out⟩
                have n3_ : Aside0 (Below w.heap.size w ((w94.setCell ⟨gb658, 0, none⟩ (.int .i64 t655)).setCell ⟨gb658, 1, none⟩ (.int .i64 t656))) := ⟨HB_⟩
                (try clear HO_644001)
                (try clear BK643)
                (try clear BK658)
                (try clear HB)
                generalize ((w94.setCell ⟨gb658, 0, none⟩ (.int .i64 t655)).setCell ⟨gb658, 1, none⟩ (.int .i64 t656)) = w97 at n0_ n1_ n2_ n3_ ⊢
                have HO_644001 := n0_
                have BK643 := n1_
                have BK658 := n2_
                have HB := n3_
                clear n0_ n1_ n2_ n3_
                first | (obtain ⟨w97, hq_⟩ : ∃ x, x = w97.drewN nd := ⟨_, rfl⟩; rw [← hq_]; have q0_ := Aside0.mk (Kd.R_drewN HO_644001.out nd); rw [← hq_] at q0_; have q1_ := Aside0.mk (blk_drewN BK643.out nd); rw [← hq_] at q1_; have q2_ := Aside0.mk (blk_drewN BK658.out nd); rw [← hq_] at q2_; have q3_ := Aside0.mk (pw_below_drewN HB.out nd); rw [← hq_] at q3_; clear HO_644001; clear BK643; clear BK658; clear HB; have HO_644001 := q0_; have BK643 := q1_; have BK658 := q2_; have HB := q3_; clear hq_ q0_ q1_ q2_ q3_) | skip
                have n_ := a_ (Aside0.mk (Kd.R_drew HO_644001.out)) (a_ (Aside0.mk (blk_drew BK643.out)) (a_ (Aside0.mk (blk_drew BK658.out)) (Aside0.mk (below_drew1 HB.out))))
                clear HO_644001 BK643 BK658 HB
                obtain ⟨HO_644001, BK643, BK658, HB⟩ := n_
                have p663 : 0 ≤ (x9_3 : Int) := of_decide_eq_true (by first | (with_reducible assumption) | assumption)
                have q663 : x9_3 < (l0.length : Int) := of_decide_eq_true (by first | (with_reducible assumption) | assumption)
                obtain ⟨ad663, e663, hx663_0, hx663_1⟩ := at_T39 HR0.out x9_3 p663 q663
                have hw663_1 := hx663_1
                have hw663_0 := hx663_0
                cases e663
                first | (replace hx663_0 := (HB.out.cell (World.block_lt_of_cell? w _ hx663_0)).trans hx663_0) | skip
                first | (replace hx663_1 := (HB.out.cell (World.block_lt_of_cell? w _ hx663_1)).trans hx663_1) | skip
                replace p663 := eq_true p663
                replace q663 := eq_true q663
                refine start_ (n := 25) (S := fun w' => w'.cell? ⟨gb643, 0, none⟩ = some (.int .i64 t638) ∧ w'.cell? ⟨gb643, 1, none⟩ = some (.slice Ao25 t639.length co25) ∧ w'.cell? ⟨gb658, 0, none⟩ = some (.int .i64 t655) ∧ w'.cell? ⟨gb658, 1, none⟩ = some (.int .i64 t656) ∧ w'.cell? (ad663.add ((x9_3).toNat * 2)) = some (.int .i64 ((rd_T39 l0 x9_3).f0)) ∧ w'.cell? ⟨(ad663.add ((x9_3).toNat * 2)).block, (ad663.add ((x9_3).toNat * 2)).off + 1, none⟩ = some (.int .i64 ((rd_T39 l0 x9_3).f1))) (ds := []) #[false, false, false, false, false, false, false, false, false, false, false, false, false, false, false, false, false, false, false, false, false, false, false, false, false] (by kernel_rfl) rfl rfl ⟨(blk_cell BK643.out 0).trans rfl, (blk_cell BK643.out 1).trans rfl, (blk_cell BK658.out 0).trans rfl, (blk_cell BK658.out 1).trans rfl, ((HB.out.cell (World.block_lt_of_cell? w _ hw663_0)).trans hw663_0), ((HB.out.cell (World.block_lt_of_cell? w _ hw663_1)).trans hw663_1)⟩ (fun hHeld => ?_); refine with_tabW warrantorlaw09_ZoneBoxes.tab19 warrantorlaw09_ZoneBoxes.bits19 (fun HT_ HW_ => ?_)
                generalize w97.drew = w98 at HO_644001 BK643 BK658 HB hx663_0 hx663_1 hHeld ⊢
                refine pu_ 0 (some 96) ?_
                refine pu_ 1 (some 97) ?_
                refine pu_ 2 (some 98) ?_
                refine take_ (i := 3) (N := some 99) (v := ?_) (a' := ?_) #[true, true, true, true, false, false, false, false, false, false, false, false, false, false, false, false, false, false, false, false, false, false, false, false, false] rfl rfl (take_ofW HT_.out HW_.out (by kernel_rfl)) (fun _ _ _ h => h) (Or.inl ⟨by rfl, ?_⟩) hHeld ?_ ?_
                rotate_left
                · rintro w' ⟨s0, s1, s2, s3, s4, s5⟩
                  go_simp
                  with_reducible rfl
                rotate_left
                · exact AP_
                refine on_ 4 (some 100) (fun K hK => ?_)
                refine goes_ Try.func52 (by kernel_rfl) rfl #[.agg #[.int .i64 t638, .slice Ao25 t639.length co25]] (by rfl) rfl rfl MP_ ?_
                with_reducible refine (dbm_Empty.calls k3 t638 _ _ t639 false _ ?side1 ?side2 A49.out).mono ?_
                (case side1 => repeat (first | exact (Kd.R_reads' HO_644001.out).2.2 | (with_reducible refine Kd.C_alloc ?_ _) | (with_reducible refine Kd.C_drewN ?_ _) | (with_reducible refine Kd.C_drew ?_)))
                (case side2 => exact (Kd.R_reads' HO_644001.out).2.1)
                rintro e w99 ⟨rfl, hb⟩
                refine ⟨_, rfl, ?_⟩
                have n_ := a_ (rb_ HO_644001 hb) (a_ (bb_ BK643 hb) (a_ (bb_ BK658 hb) (bs_ HB hb)))
                clear HO_644001 BK643 BK658 HB
                obtain ⟨HO_644001, BK643, BK658, HB⟩ := n_
                (try clear hb)
                (try clear hb2)
                (try clear hk)
                (try clear hi)
                refine hK.out _ _ ⟨(blk_cell BK643.out 0).trans rfl, (blk_cell BK643.out 1).trans rfl, (blk_cell BK658.out 0).trans rfl, (blk_cell BK658.out 1).trans rfl, ((HB.out.cell (World.block_lt_of_cell? w _ hw663_0)).trans hw663_0), ((HB.out.cell (World.block_lt_of_cell? w _ hw663_1)).trans hw663_1)⟩ (fun hHeld => ?_)
                clear hK K
                refine nm_ ?_
                refine pu_ 5 (some 101) ?_
                refine pu_ 6 (some 102) ?_
                refine pu_ 8 (some 104) ?_
                refine pu_ 9 (some 105) ?_
                refine pu_ 10 (some 106) ?_
                refine take_ (i := 7) (N := some 103) (v := ?_) (a' := ?_) #[true, true, true, true, true, true, true, true, true, true, true, false, false, false, false, false, false, false, false, false, false, false, false, false, false] rfl rfl (take_ofW HT_.out HW_.out (by kernel_rfl)) (fun _ _ _ h => h) (Or.inl ⟨by rfl, ?_⟩) hHeld ?_ ?_
                rotate_left
                · rintro w' ⟨s0, s1, s2, s3, s4, s5⟩
                  go_simp
                  with_reducible rfl
                rotate_left
                · exact AP_
                refine take_ (i := 11) (N := some 107) (v := ?_) (a' := ?_) #[true, true, true, true, true, true, true, true, true, true, true, true, false, false, false, false, false, false, false, false, false, false, false, false, false] rfl rfl (take_ofW HT_.out HW_.out (by kernel_rfl)) (fun _ _ _ h => h) (Or.inl ⟨by rfl, ?_⟩) hHeld ?_ ?_
                rotate_left
                · rintro w' ⟨s0, s1, s2, s3, s4, s5⟩
                  go_simp
                  with_reducible rfl
                rotate_left
                · exact AP_
                refine on_ 12 (some 108) (fun K hK => ?_)
                refine goes_ Try.func53 (by kernel_rfl) rfl #[.agg #[.int .i64 ((rd_T39 l0 x9_3).f0), .int .i64 ((rd_T39 l0 x9_3).f1)]] (by rfl) rfl rfl MP_ ?_
                with_reducible refine (warrantorref07_Plain.calls k3 ((rd_T39 l0 x9_3).f0) ((rd_T39 l0 x9_3).f1) t664 t665 _ A75.out).mono ?_
                rintro e w100 ⟨rfl, hb⟩
                refine ⟨_, rfl, ?_⟩
                have n_ := a_ (rb_ HO_644001 hb) (a_ (bb_ BK643 hb) (a_ (bb_ BK658 hb) (bs_ HB hb)))
                clear HO_644001 BK643 BK658 HB
                obtain ⟨HO_644001, BK643, BK658, HB⟩ := n_
                (try clear hb)
                (try clear hb2)
                (try clear hk)
                (try clear hi)
                refine hK.out _ _ ⟨(blk_cell BK643.out 0).trans rfl, (blk_cell BK643.out 1).trans rfl, (blk_cell BK658.out 0).trans rfl, (blk_cell BK658.out 1).trans rfl, ((HB.out.cell (World.block_lt_of_cell? w _ hw663_0)).trans hw663_0), ((HB.out.cell (World.block_lt_of_cell? w _ hw663_1)).trans hw663_1)⟩ (fun hHeld => ?_)
                clear hK K
                refine nm_ ?_
                refine pu_ 13 (some 109) ?_
                refine pu_ 14 (some 110) ?_
                refine pu_ 15 (some 111) ?_
                refine pu_ 16 (some 112) ?_
                refine take_ (i := 17) (N := some 113) (v := ?_) (a' := ?_) #[true, true, true, true, true, true, true, true, true, true, true, true, true, true, true, true, true, true, false, false, false, false, false, false, false] rfl rfl (take_ofW HT_.out HW_.out (by kernel_rfl)) (fun _ _ _ h => h) (Or.inl ⟨by rfl, ?_⟩) hHeld ?_ ?_
                rotate_left
                · rintro w' ⟨s0, s1, s2, s3, s4, s5⟩
                  go_simp
                  with_reducible rfl
                rotate_left
                · exact AP_
                refine on_ 18 (some 114) (fun K hK => ?_)
                refine goes_ Try.func52 (by kernel_rfl) rfl #[.agg #[.int .i64 t638, .slice Ao25 t639.length co25]] (by rfl) rfl rfl MP_ ?_
                with_reducible refine (dbm_Empty.calls k3 t638 _ _ t639 false _ ?side1 ?side2 A77.out).mono ?_
                (case side1 => repeat (first | exact (Kd.R_reads' HO_644001.out).2.2 | (with_reducible refine Kd.C_alloc ?_ _) | (with_reducible refine Kd.C_drewN ?_ _) | (with_reducible refine Kd.C_drew ?_)))
                (case side2 => exact (Kd.R_reads' HO_644001.out).2.1)
                rintro e w101 ⟨rfl, hb⟩
                refine ⟨_, rfl, ?_⟩
                have n_ := a_ (rb_ HO_644001 hb) (a_ (bb_ BK643 hb) (a_ (bb_ BK658 hb) (bs_ HB hb)))
                clear HO_644001 BK643 BK658 HB
                obtain ⟨HO_644001, BK643, BK658, HB⟩ := n_
                (try clear hb)
                (try clear hb2)
                (try clear hk)
                (try clear hi)
                refine hK.out _ _ ⟨(blk_cell BK643.out 0).trans rfl, (blk_cell BK643.out 1).trans rfl, (blk_cell BK658.out 0).trans rfl, (blk_cell BK658.out 1).trans rfl, ((HB.out.cell (World.block_lt_of_cell? w _ hw663_0)).trans hw663_0), ((HB.out.cell (World.block_lt_of_cell? w _ hw663_1)).trans hw663_1)⟩ (fun hHeld => ?_)
                clear hK K
                refine nm_ ?_
                refine pu_ 19 (some 115) ?_
                refine pv_ 20 (some 116) ?_
                refine pv_ 21 (some 117) ?_
                refine pv_ 22 (some 118) ?_
                refine pu_ 23 (some 119) ?_
                refine pu_ 24 (some 120) ?_
                refine done_ (done_of HT_.out (by kernel_rfl)) ?_
                try go_wp2
                go_roundg k3
                case measure => have := HJ2.out; have := HJ20.out; have := HK3.out; omega
                case rel => exact ⟨(wrap64 (x9_3 + 1)), (by first | rfl | (simp; done) | (simp [*]; done)), H', ⟨by have := HJ2.out; have := HJ20.out; have := HK3.out; omega⟩, ⟨by (with_reducible repeat (first | apply Kd.R_alloc | apply Kd.R_drewN | apply Kd.R_drew)); exact HO_644001.out⟩, ⟨by (with_reducible repeat (first | refine blk_drewN ?_ _ | refine blk_drew ?_ | refine blk_alloc ?_ _)); exact BK643.out⟩, ⟨HB_⟩⟩
              subst c78
              replace H := ps1_ H
              replace H := bd_ H
              obtain ⟨⟨t667, t668⟩, A79, H⟩ := H
              (try dsimp only at H)
              by_cases c80 : (!(t655 == t667) || (!(t656 == t668))) = true
              · rw [if_pos c80] at H
                exact absurd H (by simp)
              rw [if_neg c80] at H
              have c80b0 : (!(t655 == t667) || (!(t656 == t668))) = false := by simpa using c80
              clear c80
              have H' := Aside0.mk H
              clear H
              obtain ⟨hcz81_0, hcz81_1, hfz81_0, hfz81_1⟩ := cz2_ BK643
              try go_wp2_with (first | ((with_reducible refine gate_callee (f := 26) rfl ?_); refine goesL_ (some 93) rfl rfl Try.func26 (by kernel_rfl) rfl #[.agg #[.int .i64 t638, .slice Ao25 t639.length co25], .int .i64 (wrap64 (x9_3 + 1))] rfl MP_ ?_; (with_reducible refine (zone_Itv.calls k3 t638 _ _ t639 (wrap64 (x9_3 + 1)) t655 t656 t657 _ ?side1 ?side2 A47.out).mono ?_); (case side1 => repeat (first | exact (Kd.R_reads' HO_644001.out).2.2 | (with_reducible refine Kd.C_alloc ?_ _) | (with_reducible refine Kd.C_drewN ?_ _) | (with_reducible refine Kd.C_drew ?_))); (case side2 => exact (Kd.R_reads' HO_644001.out).2.1); rintro e w82 ⟨rfl, hb⟩; refine ⟨_, rfl, ?_⟩; have n_ := a_ (rb_ HO_644001 hb) (a_ (bb_ BK643 hb) (bs_ HB hb)); clear HO_644001 BK643 HB; obtain ⟨HO_644001, BK643, HB⟩ := n_; (try clear hb); (try clear hb2); (try clear hk); (try clear hi)) | ((with_reducible refine gate_dst (N := 10) rfl ?_); (try (refine gate_guard (by rfl) ?_; dsimp only)); refine bx_ (N := 10) (cs := #[.int .i64 0, .int .i64 0]) (t := 39) ?_; intro gb658 hg w83 hbox hb; have n_ := a_ (rb_ HO_644001 hb) (a_ (bb_ BK643 hb) (a_ (bs_ HB hb) (a_ (Aside0.mk hbox) (a_ (gs_ HB hg) (a_ (gs_ HB hg) (a_ (nl_ BK643 hg) (ng_ BK643 hg))))))); clear HO_644001 BK643 HB; obtain ⟨HO_644001, BK643, HB, BK658, GW658, GE658, NB643_658, NB658_643⟩ := n_; clear hb hbox hg; have hnb84 := NB658_643.out; have hnc84 := NB643_658.out; obtain ⟨hcz85_0, hcz85_1, hfz85_0, hfz85_1⟩ := cz2_ BK658))
              have n0_ : Aside0 (Kd.R (Kd.int .i64) 3 ((w83.setCell ⟨gb658, 0, none⟩ (.int .i64 t655)).setCell ⟨gb658, 1, none⟩ (.int .i64 t656)) w.heap.size (fun _ => True) (.slice Ao25 t639.length co25) t639) := ⟨by (with_reducible repeat (first | apply Kd.R_alloc | apply Kd.R_drewN | apply Kd.R_drew)); exact Kd.R_mono (Kd.R_far (p := ⟨gb658, 1, none⟩) (Kd.R_far (p := ⟨gb658, 0, none⟩) (Kd.R_types HO_644001.out BK658.out (by decide)) (fun _ hk => hk.2) (.int .i64 t655)) (fun _ hk => hk.2) (.int .i64 t656)) (fun _ hk => trivial)⟩
              have n1_ : Aside0 (((w83.setCell ⟨gb658, 0, none⟩ (.int .i64 t655)).setCell ⟨gb658, 1, none⟩ (.int .i64 t656)).heap[gb643]? = some (.cells #[.int .i64 t638, .slice Ao25 t639.length co25] 24 (0, 0))) := ⟨by (with_reducible repeat (first | refine blk_drewN ?_ _ | refine blk_drew ?_ | refine blk_alloc ?_ _)); refine blk_far ?_ NB643_658.out _; (with_reducible repeat (first | refine blk_drewN ?_ _ | refine blk_drew ?_ | refine blk_alloc ?_ _)); refine blk_far ?_ NB643_658.out _; (with_reducible repeat (first | refine blk_drewN ?_ _ | refine blk_drew ?_ | refine blk_alloc ?_ _)); exact BK643.out⟩
              have n2_ : Aside0 (((w83.setCell ⟨gb658, 0, none⟩ (.int .i64 t655)).setCell ⟨gb658, 1, none⟩ (.int .i64 t656)).heap[gb658]? = some (.cells #[.int .i64 t655, .int .i64 t656] 39 (0, 0))) := ⟨by (with_reducible repeat (first | refine blk_drewN ?_ _ | refine blk_drew ?_ | refine blk_alloc ?_ _)); refine blk_put (cs := #[.int .i64 t655, .int .i64 0]) ?_ 1 _ rfl; (with_reducible repeat (first | refine blk_drewN ?_ _ | refine blk_drew ?_ | refine blk_alloc ?_ _)); refine blk_put (cs := #[.int .i64 0, .int .i64 0]) ?_ 0 _ rfl; (with_reducible repeat (first | refine blk_drewN ?_ _ | refine blk_drew ?_ | refine blk_alloc ?_ _)); exact BK658.out⟩
              have n3_ : Aside0 (Below w.heap.size w ((w83.setCell ⟨gb658, 0, none⟩ (.int .i64 t655)).setCell ⟨gb658, 1, none⟩ (.int .i64 t656))) := ⟨HB_⟩
              (try clear HO_644001)
              (try clear BK643)
              (try clear BK658)
              (try clear HB)
              generalize ((w83.setCell ⟨gb658, 0, none⟩ (.int .i64 t655)).setCell ⟨gb658, 1, none⟩ (.int .i64 t656)) = w86 at n0_ n1_ n2_ n3_ ⊢
              have HO_644001 := n0_
              have BK643 := n1_
              have BK658 := n2_
              have HB := n3_
              clear n0_ n1_ n2_ n3_
              first | (obtain ⟨w86, hq_⟩ : ∃ x, x = w86.drewN nd := ⟨_, rfl⟩; rw [← hq_]; have q0_ := Aside0.mk (Kd.R_drewN HO_644001.out nd); rw [← hq_] at q0_; have q1_ := Aside0.mk (blk_drewN BK643.out nd); rw [← hq_] at q1_; have q2_ := Aside0.mk (blk_drewN BK658.out nd); rw [← hq_] at q2_; have q3_ := Aside0.mk (pw_below_drewN HB.out nd); rw [← hq_] at q3_; clear HO_644001; clear BK643; clear BK658; clear HB; have HO_644001 := q0_; have BK643 := q1_; have BK658 := q2_; have HB := q3_; clear hq_ q0_ q1_ q2_ q3_) | skip
              have n_ := a_ (Aside0.mk (Kd.R_drew HO_644001.out)) (a_ (Aside0.mk (blk_drew BK643.out)) (a_ (Aside0.mk (blk_drew BK658.out)) (Aside0.mk (below_drew1 HB.out))))
              clear HO_644001 BK643 BK658 HB
              obtain ⟨HO_644001, BK643, BK658, HB⟩ := n_
              have p663 : 0 ≤ (x9_3 : Int) := of_decide_eq_true (by first | (with_reducible assumption) | assumption)
              have q663 : x9_3 < (l0.length : Int) := of_decide_eq_true (by first | (with_reducible assumption) | assumption)
              obtain ⟨ad663, e663, hx663_0, hx663_1⟩ := at_T39 HR0.out x9_3 p663 q663
              have hw663_1 := hx663_1
              have hw663_0 := hx663_0
              cases e663
              first | (replace hx663_0 := (HB.out.cell (World.block_lt_of_cell? w _ hx663_0)).trans hx663_0) | skip
              first | (replace hx663_1 := (HB.out.cell (World.block_lt_of_cell? w _ hx663_1)).trans hx663_1) | skip
              replace p663 := eq_true p663
              replace q663 := eq_true q663
              refine start_ (n := 25) (S := fun w' => w'.cell? ⟨gb643, 0, none⟩ = some (.int .i64 t638) ∧ w'.cell? ⟨gb643, 1, none⟩ = some (.slice Ao25 t639.length co25) ∧ w'.cell? ⟨gb658, 0, none⟩ = some (.int .i64 t655) ∧ w'.cell? ⟨gb658, 1, none⟩ = some (.int .i64 t656) ∧ w'.cell? (ad663.add ((x9_3).toNat * 2)) = some (.int .i64 ((rd_T39 l0 x9_3).f0)) ∧ w'.cell? ⟨(ad663.add ((x9_3).toNat * 2)).block, (ad663.add ((x9_3).toNat * 2)).off + 1, none⟩ = some (.int .i64 ((rd_T39 l0 x9_3).f1))) (ds := []) #[false, false, false, false, false, false, false, false, false, false, false, false, false, false, false, false, false, false, false, false, false, false, false, false, false] (by kernel_rfl) rfl rfl ⟨(blk_cell BK643.out 0).trans rfl, (blk_cell BK643.out 1).trans rfl, (blk_cell BK658.out 0).trans rfl, (blk_cell BK658.out 1).trans rfl, ((HB.out.cell (World.block_lt_of_cell? w _ hw663_0)).trans hw663_0), ((HB.out.cell (World.block_lt_of_cell? w _ hw663_1)).trans hw663_1)⟩ (fun hHeld => ?_); refine with_tabW warrantorlaw09_ZoneBoxes.tab19 warrantorlaw09_ZoneBoxes.bits19 (fun HT_ HW_ => ?_)
              generalize w86.drew = w87 at HO_644001 BK643 BK658 HB hx663_0 hx663_1 hHeld ⊢
              refine pu_ 0 (some 96) ?_
              refine pu_ 1 (some 97) ?_
              refine pu_ 2 (some 98) ?_
              refine take_ (i := 3) (N := some 99) (v := ?_) (a' := ?_) #[true, true, true, true, false, false, false, false, false, false, false, false, false, false, false, false, false, false, false, false, false, false, false, false, false] rfl rfl (take_ofW HT_.out HW_.out (by kernel_rfl)) (fun _ _ _ h => h) (Or.inl ⟨by rfl, ?_⟩) hHeld ?_ ?_
              rotate_left
              · rintro w' ⟨s0, s1, s2, s3, s4, s5⟩
                go_simp
                with_reducible rfl
              rotate_left
              · exact AP_
              refine on_ 4 (some 100) (fun K hK => ?_)
              refine goes_ Try.func52 (by kernel_rfl) rfl #[.agg #[.int .i64 t638, .slice Ao25 t639.length co25]] (by rfl) rfl rfl MP_ ?_
              with_reducible refine (dbm_Empty.calls k3 t638 _ _ t639 false _ ?side1 ?side2 A49.out).mono ?_
              (case side1 => repeat (first | exact (Kd.R_reads' HO_644001.out).2.2 | (with_reducible refine Kd.C_alloc ?_ _) | (with_reducible refine Kd.C_drewN ?_ _) | (with_reducible refine Kd.C_drew ?_)))
              (case side2 => exact (Kd.R_reads' HO_644001.out).2.1)
              rintro e w88 ⟨rfl, hb⟩
              refine ⟨_, rfl, ?_⟩
              have n_ := a_ (rb_ HO_644001 hb) (a_ (bb_ BK643 hb) (a_ (bb_ BK658 hb) (bs_ HB hb)))
              clear HO_644001 BK643 BK658 HB
              obtain ⟨HO_644001, BK643, BK658, HB⟩ := n_
              (try clear hb)
              (try clear hb2)
              (try clear hk)
              (try clear hi)
              refine hK.out _ _ ⟨(blk_cell BK643.out 0).trans rfl, (blk_cell BK643.out 1).trans rfl, (blk_cell BK658.out 0).trans rfl, (blk_cell BK658.out 1).trans rfl, ((HB.out.cell (World.block_lt_of_cell? w _ hw663_0)).trans hw663_0), ((HB.out.cell (World.block_lt_of_cell? w _ hw663_1)).trans hw663_1)⟩ (fun hHeld => ?_)
              clear hK K
              refine nm_ ?_
              refine pu_ 5 (some 101) ?_
              refine pu_ 6 (some 102) ?_
              refine pu_ 8 (some 104) ?_
              refine pu_ 9 (some 105) ?_
              refine pu_ 10 (some 106) ?_
              refine take_ (i := 7) (N := some 103) (v := ?_) (a' := ?_) #[true, true, true, true, true, true, true, true, true, true, true, false, false, false, false, false, false, false, false, false, false, false, false, false, false] rfl rfl (take_ofW HT_.out HW_.out (by kernel_rfl)) (fun _ _ _ h => h) (Or.inl ⟨by rfl, ?_⟩) hHeld ?_ ?_
              rotate_left
              · rintro w' ⟨s0, s1, s2, s3, s4, s5⟩
                go_simp
                with_reducible rfl
              rotate_left
              · exact AP_
              refine take_ (i := 11) (N := some 107) (v := ?_) (a' := ?_) #[true, true, true, true, true, true, true, true, true, true, true, true, false, false, false, false, false, false, false, false, false, false, false, false, false] rfl rfl (take_ofW HT_.out HW_.out (by kernel_rfl)) (fun _ _ _ h => h) (Or.inl ⟨by rfl, ?_⟩) hHeld ?_ ?_
              rotate_left
              · rintro w' ⟨s0, s1, s2, s3, s4, s5⟩
                go_simp
                with_reducible rfl
              rotate_left
              · exact AP_
              refine on_ 12 (some 108) (fun K hK => ?_)
              refine goes_ Try.func53 (by kernel_rfl) rfl #[.agg #[.int .i64 ((rd_T39 l0 x9_3).f0), .int .i64 ((rd_T39 l0 x9_3).f1)]] (by rfl) rfl rfl MP_ ?_
              with_reducible refine (warrantorref07_Plain.calls k3 ((rd_T39 l0 x9_3).f0) ((rd_T39 l0 x9_3).f1) t664 t665 _ A75.out).mono ?_
              rintro e w89 ⟨rfl, hb⟩
              refine ⟨_, rfl, ?_⟩
              have n_ := a_ (rb_ HO_644001 hb) (a_ (bb_ BK643 hb) (a_ (bb_ BK658 hb) (bs_ HB hb)))
              clear HO_644001 BK643 BK658 HB
              obtain ⟨HO_644001, BK643, BK658, HB⟩ := n_
              (try clear hb)
              (try clear hb2)
              (try clear hk)
              (try clear hi)
              refine hK.out _ _ ⟨(blk_cell BK643.out 0).trans rfl, (blk_cell BK643.out 1).trans rfl, (blk_cell BK658.out 0).trans rfl, (blk_cell BK658.out 1).trans rfl, ((HB.out.cell (World.block_lt_of_cell? w _ hw663_0)).trans hw663_0), ((HB.out.cell (World.block_lt_of_cell? w _ hw663_1)).trans hw663_1)⟩ (fun hHeld => ?_)
              clear hK K
              refine nm_ ?_
              refine pu_ 13 (some 109) ?_
              refine pu_ 14 (some 110) ?_
              refine pu_ 15 (some 111) ?_
              refine pu_ 16 (some 112) ?_
              refine take_ (i := 17) (N := some 113) (v := ?_) (a' := ?_) #[true, true, true, true, true, true, true, true, true, true, true, true, true, true, true, true, true, true, false, false, false, false, false, false, false] rfl rfl (take_ofW HT_.out HW_.out (by kernel_rfl)) (fun _ _ _ h => h) (Or.inl ⟨by rfl, ?_⟩) hHeld ?_ ?_
              rotate_left
              · rintro w' ⟨s0, s1, s2, s3, s4, s5⟩
                go_simp
                with_reducible rfl
              rotate_left
              · exact AP_
              refine on_ 18 (some 114) (fun K hK => ?_)
              refine goes_ Try.func52 (by kernel_rfl) rfl #[.agg #[.int .i64 t638, .slice Ao25 t639.length co25]] (by rfl) rfl rfl MP_ ?_
              with_reducible refine (dbm_Empty.calls k3 t638 _ _ t639 true _ ?side1 ?side2 A77.out).mono ?_
              (case side1 => repeat (first | exact (Kd.R_reads' HO_644001.out).2.2 | (with_reducible refine Kd.C_alloc ?_ _) | (with_reducible refine Kd.C_drewN ?_ _) | (with_reducible refine Kd.C_drew ?_)))
              (case side2 => exact (Kd.R_reads' HO_644001.out).2.1)
              rintro e w90 ⟨rfl, hb⟩
              refine ⟨_, rfl, ?_⟩
              have n_ := a_ (rb_ HO_644001 hb) (a_ (bb_ BK643 hb) (a_ (bb_ BK658 hb) (bs_ HB hb)))
              clear HO_644001 BK643 BK658 HB
              obtain ⟨HO_644001, BK643, BK658, HB⟩ := n_
              (try clear hb)
              (try clear hb2)
              (try clear hk)
              (try clear hi)
              refine hK.out _ _ ⟨(blk_cell BK643.out 0).trans rfl, (blk_cell BK643.out 1).trans rfl, (blk_cell BK658.out 0).trans rfl, (blk_cell BK658.out 1).trans rfl, ((HB.out.cell (World.block_lt_of_cell? w _ hw663_0)).trans hw663_0), ((HB.out.cell (World.block_lt_of_cell? w _ hw663_1)).trans hw663_1)⟩ (fun hHeld => ?_)
              clear hK K
              refine nm_ ?_
              refine pu_ 19 (some 115) ?_
              refine take_ (i := 20) (N := some 116) (v := ?_) (a' := ?_) #[true, true, true, true, true, true, true, true, true, true, true, true, true, true, true, true, true, true, true, true, true, false, false, false, false] rfl rfl (take_ofW HT_.out HW_.out (by kernel_rfl)) (fun _ _ _ h => h) (Or.inl ⟨by rfl, ?_⟩) hHeld ?_ ?_
              rotate_left
              · rintro w' ⟨s0, s1, s2, s3, s4, s5⟩
                go_simp
                with_reducible rfl
              rotate_left
              · exact AP_
              refine on_ 21 (some 117) (fun K hK => ?_)
              refine goes_ Try.func54 (by kernel_rfl) rfl #[] (by rfl) rfl rfl MP_ ?_
              with_reducible refine (warrantorref07_None.calls  t667 t668 _ A79.out).mono ?_
              rintro e w91 ⟨rfl, hb⟩
              refine ⟨_, rfl, ?_⟩
              have n_ := a_ (rb_ HO_644001 hb) (a_ (bb_ BK643 hb) (a_ (bb_ BK658 hb) (bs_ HB hb)))
              clear HO_644001 BK643 BK658 HB
              obtain ⟨HO_644001, BK643, BK658, HB⟩ := n_
              (try clear hb)
              (try clear hb2)
              (try clear hk)
              (try clear hi)
              refine hK.out _ _ ⟨(blk_cell BK643.out 0).trans rfl, (blk_cell BK643.out 1).trans rfl, (blk_cell BK658.out 0).trans rfl, (blk_cell BK658.out 1).trans rfl, ((HB.out.cell (World.block_lt_of_cell? w _ hw663_0)).trans hw663_0), ((HB.out.cell (World.block_lt_of_cell? w _ hw663_1)).trans hw663_1)⟩ (fun hHeld => ?_)
              clear hK K
              refine nm_ ?_
              refine pu_ 22 (some 118) ?_
              refine pu_ 23 (some 119) ?_
              refine pu_ 24 (some 120) ?_
              refine done_ (done_of HT_.out (by kernel_rfl)) ?_
              try go_wp2
              go_roundg k3
              case measure => have := HJ2.out; have := HJ20.out; have := HK3.out; omega
              case rel => exact ⟨(wrap64 (x9_3 + 1)), (by first | rfl | (simp; done) | (simp [*]; done)), H', ⟨by have := HJ2.out; have := HJ20.out; have := HK3.out; omega⟩, ⟨by (with_reducible repeat (first | apply Kd.R_alloc | apply Kd.R_drewN | apply Kd.R_drew)); exact HO_644001.out⟩, ⟨by (with_reducible repeat (first | refine blk_drewN ?_ _ | refine blk_drew ?_ | refine blk_alloc ?_ _)); exact BK643.out⟩, ⟨HB_⟩⟩
/-- THE ONE PURE STATEMENT of warrantorlaw09_ZoneBoxes: yours. -/
def warrantorlaw09_ZoneBoxes.Pure : Prop := ∀ (l0 : List (S39)) (l1 : List Int), l0.length ≤ maxLen → l0.length * 16 ≤ 140737488351232 → (∀ x ∈ l0, (Lit.int .i64 x.f0).wf = true ∧ (Lit.int .i64 x.f1).wf = true) → l1.length ≤ maxLen → l1.length * 8 ≤ 140737488351232 → (∀ x ∈ l1, (Lit.int .i64 x).wf = true) → ∃ k, warrantorlaw09_ZoneBoxes.f k l0 l1 = some true
theorem warrantorlaw09_ZoneBoxes.walk (P : warrantorlaw09_ZoneBoxes.Pure) (a0 : Option Addr) (cap0 : Nat) (l0 : List (S39)) (a1 : Option Addr) (len1 cap1 : Nat) (z1 : List Int) (w : World) (hr0 : Kd.C k39 w a0 l0.length l0) (hc0 : l0.length ≤ cap0) (hm0 : l0.length ≤ maxLen) (y0 : l0.length * 16 ≤ 140737488351232) (hw0 : ∀ x ∈ l0, (Lit.int .i64 x.f0).wf = true ∧ (Lit.int .i64 x.f1).wf = true) (w1 : (a1 = none ∧ len1 = 0 ∧ cap1 = 0 ∧ z1 = []) ∨ ∃ x, a1 = some x ∧ len1 ≤ cap1 ∧ cap1 ≤ maxLen ∧ z1.length = cap1 ∧ (∀ i, i < z1.length → w.cell? (x.add i) = some (.int .i64 (z1.getD i 0))) ∧ ∀ n ∈ z1, (Lit.int .i64 n).wf = true) (y1 : len1 * 8 ≤ 140737488351232) :
    Calls Try.prog 9 #[.slice a0 l0.length cap0, .slice a1 len1 cap1] w fun e w' => e = .returned (.bool true) ∧ Below w.heap.size w w' := by
  obtain ⟨l1, rfl, hr1, hm1, hw1, hc1⟩ := ReadsInt.ofRowC w1
  obtain ⟨k, h⟩ := P l0 l1 hm0 y0 hw0 hm1 y1 hw1
  refine (warrantorlaw09_ZoneBoxes.calls k _ _ l0 _ _ l1 true w hr0 hc0 (Kd.C_of_reads (d := (0 : Int)) (h1 := fun _ => rfl) hr1) hc1 h).mono ?_
  rintro e w' ⟨rfl, hd⟩
  exact ⟨rfl, hd⟩

end Go.Proofs.Ytgeemdpflcefkaa.Z
