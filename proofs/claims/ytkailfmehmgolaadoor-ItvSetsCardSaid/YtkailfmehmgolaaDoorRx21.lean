-- WRITTEN BY this session's program wip/ext.py, in print.py's manner
import Derived.Test.YtkailfmehmgolaaDoorRx0
import Derived.Test.YtkailfmehmgolaaDoorRx3
import Derived.Test.YtkailfmehmgolaaDoorRx4
import Derived.Test.YtkailfmehmgolaaDoorRx5
import Derived.Test.YtkailfmehmgolaaDoorRx6
import Derived.Test.YtkailfmehmgolaaDoorRx7
import Derived.Test.YtkailfmehmgolaaDoorRx14
import Derived.Test.YtkailfmehmgolaaDoorRx15
namespace Go.Proofs.YtkailfmehmgolaaDoor.R
open Go.RowKit Go.Proofs.YtkailfmehmgolaaDoorW.PrintWords Go.Proofs.YtkailfmehmgolaaDoorW.PrintLast Go.Proofs.YtkailfmehmgolaaDoorW.PrintMore
attribute [local go_sem] max2_int min2_int max_two min_two max_three min_three max_four min_four   -- for this text's walks alone
set_option linter.unusedVariables false
set_option linter.unusedSimpArgs false

/-! ### warrantorlaw07_ItvSets: function 4 -/
mutual
def warrantorlaw07_ItvSets.j0 : Nat → Int → Int → Int → Bool → Int → Int → Int → Int → Option (Bool)
  | 0, _, _, _, _, _, _, _, _ => none
  | k + 1, x2, x3, x4, x41, x415000, x415001, x416000, x416001 => if x41 = true then (none) else ((itv_Has.f x415000 x415001 x3).bind fun t436 => (if t436 = true then ((itv_Join.f x415000 x415001 x416000 x416001).bind fun bt437 => ((itv_Has.f bt437.1 bt437.2 x3).bind fun t439 => (if t439 = true then ((itv_Has.f x416000 x416001 x3).bind fun t440 => (if t440 = true then ((itv_Widen.f x415000 x415001 x416000 x416001).bind fun bt441 => ((itv_Has.f bt441.1 bt441.2 x3).bind fun t443 => (if t443 = true then ((itv_Has.f x415000 x415001 x3).bind fun t444 => (if t444 = true then ((itv_Widen.f x415000 x415001 x416000 x416001).bind fun bt445 => ((itv_Has.f bt445.1 bt445.2 x3).bind fun t447 => (warrantorlaw07_ItvSets.j1 k x2 x3 x4 (!t447) x415000 x415001 x416000 x416001))) else (warrantorlaw07_ItvSets.j1 k x2 x3 x4 false x415000 x415001 x416000 x416001))) else (none)))) else ((itv_Has.f x415000 x415001 x3).bind fun t448 => (if t448 = true then ((itv_Widen.f x415000 x415001 x416000 x416001).bind fun bt449 => ((itv_Has.f bt449.1 bt449.2 x3).bind fun t451 => (warrantorlaw07_ItvSets.j1 k x2 x3 x4 (!t451) x415000 x415001 x416000 x416001))) else (warrantorlaw07_ItvSets.j1 k x2 x3 x4 false x415000 x415001 x416000 x416001))))) else (none)))) else ((itv_Has.f x416000 x416001 x3).bind fun t452 => (if t452 = true then ((itv_Widen.f x415000 x415001 x416000 x416001).bind fun bt453 => ((itv_Has.f bt453.1 bt453.2 x3).bind fun t455 => (if t455 = true then ((itv_Has.f x415000 x415001 x3).bind fun t456 => (if t456 = true then ((itv_Widen.f x415000 x415001 x416000 x416001).bind fun bt457 => ((itv_Has.f bt457.1 bt457.2 x3).bind fun t459 => (warrantorlaw07_ItvSets.j1 k x2 x3 x4 (!t459) x415000 x415001 x416000 x416001))) else (warrantorlaw07_ItvSets.j1 k x2 x3 x4 false x415000 x415001 x416000 x416001))) else (none)))) else ((itv_Has.f x415000 x415001 x3).bind fun t460 => (if t460 = true then ((itv_Widen.f x415000 x415001 x416000 x416001).bind fun bt461 => ((itv_Has.f bt461.1 bt461.2 x3).bind fun t463 => (warrantorlaw07_ItvSets.j1 k x2 x3 x4 (!t463) x415000 x415001 x416000 x416001))) else (warrantorlaw07_ItvSets.j1 k x2 x3 x4 false x415000 x415001 x416000 x416001)))))))
def warrantorlaw07_ItvSets.j1 : Nat → Int → Int → Int → Bool → Int → Int → Int → Int → Option (Bool)
  | 0, _, _, _, _, _, _, _, _ => none
  | k + 1, x2, x3, x4, x78, x415000, x415001, x416000, x416001 => if x78 = true then (none) else ((warrantorref06_Is.f x3).bind fun t464 => (if t464 = true then ((itv_Neg.f x415000 x415001).bind fun bt465 => ((itv_Has.f bt465.1 bt465.2 (wrap64 (-x3))).bind fun t467 => ((itv_Has.f x415000 x415001 x3).bind fun t468 => (warrantorlaw07_ItvSets.j2 k x2 x3 x4 (t467 != t468) x415000 x415001 x416000 x416001)))) else (warrantorlaw07_ItvSets.j2 k x2 x3 x4 false x415000 x415001 x416000 x416001)))
def warrantorlaw07_ItvSets.j2 : Nat → Int → Int → Int → Bool → Int → Int → Int → Int → Option (Bool)
  | 0, _, _, _, _, _, _, _, _ => none
  | k + 1, x2, x3, x4, x91, x415000, x415001, x416000, x416001 => if x91 = true then (none) else ((warrantorref06_Is.f x3).bind fun t469 => (if t469 = true then ((warrantorref06_Is.f x4).bind fun t470 => (if t470 = true then ((itv_Has.f x415000 x415001 x3).bind fun t471 => (if t471 = true then ((itv_Has.f x416000 x416001 x4).bind fun t472 => (if t472 = true then ((itv_Plus.f x415000 x415001 x416000 x416001).bind fun bt473 => ((itv_Has.f bt473.1 bt473.2 (wrap64 (x3 + x4))).bind fun t475 => ((warrantorref06_Is.f (wrap64 (x3 + x4))).bind fun t476 => (warrantorlaw07_ItvSets.j3 k x2 x3 (t475 != t476) x415000 x415001)))) else (warrantorlaw07_ItvSets.j3 k x2 x3 false x415000 x415001))) else (warrantorlaw07_ItvSets.j3 k x2 x3 false x415000 x415001))) else (warrantorlaw07_ItvSets.j3 k x2 x3 false x415000 x415001))) else (warrantorlaw07_ItvSets.j3 k x2 x3 false x415000 x415001)))
def warrantorlaw07_ItvSets.j3 : Nat → Int → Int → Bool → Int → Int → Option (Bool)
  | 0, _, _, _, _, _ => none
  | k + 1, x2, x3, x121, x415000, x415001 => if x121 = true then (none) else ((warrantorref06_Is.f x3).bind fun t477 => (if t477 = true then ((warrantorref06_Is.f x2).bind fun t478 => (warrantorlaw07_ItvSets.j4 k x2 x3 (!t478) x415000 x415001)) else (warrantorlaw07_ItvSets.j4 k x2 x3 true x415000 x415001)))
def warrantorlaw07_ItvSets.j4 : Nat → Int → Int → Bool → Int → Int → Option (Bool)
  | 0, _, _, _, _, _ => none
  | k + 1, x2, x3, x129, x415000, x415001 => if x129 = true then (some true) else ((warrantorref06_Is.f (wrap64 (x3 - x2))).bind fun t479 => (if t479 = true then ((itv_Move.f k x415000 x415001 x2).bind fun bt480 => ((itv_Has.f bt480.1 bt480.2 x3).bind fun t482 => ((itv_Has.f x415000 x415001 (wrap64 (x3 - x2))).bind fun t483 => (some (t482 == t483))))) else (some true)))
end
def warrantorlaw07_ItvSets.f (k : Nat) (a0_0 : Int) (a0_1 : Int) (a1_0 : Int) (a1_1 : Int) (a2 : Int) (a3 : Int) (a4 : Int) : Option (Bool) := (warrantorlaw07_lives.f k).bind fun t416 => (if t416 = true then ((itv_Meet.f a0_0 a0_1 a1_0 a1_1).bind fun bt417 => ((itv_Has.f bt417.1 bt417.2 a3).bind fun t419 => ((itv_Has.f a0_0 a0_1 a3).bind fun t420 => (if t420 = true then ((itv_Has.f a1_0 a1_1 a3).bind fun t421 => (if (t419 != t421) = true then (none) else ((itv_All.f).bind fun bt422 => ((itv_Has.f bt422.1 bt422.2 a3).bind fun t424 => ((warrantorref06_Is.f a3).bind fun t425 => (if (t424 != t425) = true then (none) else ((itv_None.f).bind fun bt426 => ((itv_Has.f bt426.1 bt426.2 a3).bind fun t428 => (warrantorlaw07_ItvSets.j0 k a2 a3 a4 t428 a0_0 a0_1 a1_0 a1_1))))))))) else (if (t419 != false) = true then (none) else ((itv_All.f).bind fun bt429 => ((itv_Has.f bt429.1 bt429.2 a3).bind fun t431 => ((warrantorref06_Is.f a3).bind fun t432 => (if (t431 != t432) = true then (none) else ((itv_None.f).bind fun bt433 => ((itv_Has.f bt433.1 bt433.2 a3).bind fun t435 => (warrantorlaw07_ItvSets.j0 k a2 a3 a4 t435 a0_0 a0_1 a1_0 a1_1)))))))))))) else (none))
theorem warrantorlaw07_ItvSets.mono_l : ∀ k, (∀ y0 y1 y2 y3 y4 y5 y6 y7, LeO (warrantorlaw07_ItvSets.j0 k y0 y1 y2 y3 y4 y5 y6 y7) (warrantorlaw07_ItvSets.j0 (k + 1) y0 y1 y2 y3 y4 y5 y6 y7)) ∧ (∀ y0 y1 y2 y3 y4 y5 y6 y7, LeO (warrantorlaw07_ItvSets.j1 k y0 y1 y2 y3 y4 y5 y6 y7) (warrantorlaw07_ItvSets.j1 (k + 1) y0 y1 y2 y3 y4 y5 y6 y7)) ∧ (∀ y0 y1 y2 y3 y4 y5 y6 y7, LeO (warrantorlaw07_ItvSets.j2 k y0 y1 y2 y3 y4 y5 y6 y7) (warrantorlaw07_ItvSets.j2 (k + 1) y0 y1 y2 y3 y4 y5 y6 y7)) ∧ (∀ y0 y1 y2 y3 y4, LeO (warrantorlaw07_ItvSets.j3 k y0 y1 y2 y3 y4) (warrantorlaw07_ItvSets.j3 (k + 1) y0 y1 y2 y3 y4)) ∧ (∀ y0 y1 y2 y3 y4, LeO (warrantorlaw07_ItvSets.j4 k y0 y1 y2 y3 y4) (warrantorlaw07_ItvSets.j4 (k + 1) y0 y1 y2 y3 y4))
  | 0 => ⟨fun _ _ _ _ _ _ _ _ r h => by simp [warrantorlaw07_ItvSets.j0] at h, fun _ _ _ _ _ _ _ _ r h => by simp [warrantorlaw07_ItvSets.j1] at h, fun _ _ _ _ _ _ _ _ r h => by simp [warrantorlaw07_ItvSets.j2] at h, fun _ _ _ _ _ r h => by simp [warrantorlaw07_ItvSets.j3] at h, fun _ _ _ _ _ r h => by simp [warrantorlaw07_ItvSets.j4] at h⟩
  | k + 1 => by
    obtain ⟨ih0, ih1, ih2, ih3, ih4⟩ := warrantorlaw07_ItvSets.mono_l k
    refine ⟨?_, ?_, ?_, ?_, ?_⟩
    · intro y0 y1 y2 y3 y4 y5 y6 y7
      unfold warrantorlaw07_ItvSets.j0
      repeat' first
      | (with_reducible exact ih0 _ _ _ _ _ _ _ _)
      | (with_reducible exact ih1 _ _ _ _ _ _ _ _)
      | (with_reducible exact ih2 _ _ _ _ _ _ _ _)
      | (with_reducible exact ih3 _ _ _ _ _)
      | (with_reducible exact ih4 _ _ _ _ _)
      | (with_reducible exact itv_Move.mono _ _ _ _)
      | (with_reducible exact warrantorlaw07_lives.mono _)
      | (with_reducible exact LeO.refl _)
      | (with_reducible exact LeO.none _)
      | (with_reducible refine LeO.ite ?_ ?_)
      | (with_reducible refine LeO.bind ?_ (fun _ => ?_))
      | exact ih0 _ _ _ _ _ _ _ _
      | exact ih1 _ _ _ _ _ _ _ _
      | exact ih2 _ _ _ _ _ _ _ _
      | exact ih3 _ _ _ _ _
      | exact ih4 _ _ _ _ _
      | exact itv_Move.mono _ _ _ _
      | exact warrantorlaw07_lives.mono _
      | exact LeO.none _
      | refine LeO.ite ?_ ?_
      | refine LeO.bind ?_ (fun _ => ?_)
    · intro y0 y1 y2 y3 y4 y5 y6 y7
      unfold warrantorlaw07_ItvSets.j1
      repeat' first
      | (with_reducible exact ih0 _ _ _ _ _ _ _ _)
      | (with_reducible exact ih1 _ _ _ _ _ _ _ _)
      | (with_reducible exact ih2 _ _ _ _ _ _ _ _)
      | (with_reducible exact ih3 _ _ _ _ _)
      | (with_reducible exact ih4 _ _ _ _ _)
      | (with_reducible exact itv_Move.mono _ _ _ _)
      | (with_reducible exact warrantorlaw07_lives.mono _)
      | (with_reducible exact LeO.refl _)
      | (with_reducible exact LeO.none _)
      | (with_reducible refine LeO.ite ?_ ?_)
      | (with_reducible refine LeO.bind ?_ (fun _ => ?_))
      | exact ih0 _ _ _ _ _ _ _ _
      | exact ih1 _ _ _ _ _ _ _ _
      | exact ih2 _ _ _ _ _ _ _ _
      | exact ih3 _ _ _ _ _
      | exact ih4 _ _ _ _ _
      | exact itv_Move.mono _ _ _ _
      | exact warrantorlaw07_lives.mono _
      | exact LeO.none _
      | refine LeO.ite ?_ ?_
      | refine LeO.bind ?_ (fun _ => ?_)
    · intro y0 y1 y2 y3 y4 y5 y6 y7
      unfold warrantorlaw07_ItvSets.j2
      repeat' first
      | (with_reducible exact ih0 _ _ _ _ _ _ _ _)
      | (with_reducible exact ih1 _ _ _ _ _ _ _ _)
      | (with_reducible exact ih2 _ _ _ _ _ _ _ _)
      | (with_reducible exact ih3 _ _ _ _ _)
      | (with_reducible exact ih4 _ _ _ _ _)
      | (with_reducible exact itv_Move.mono _ _ _ _)
      | (with_reducible exact warrantorlaw07_lives.mono _)
      | (with_reducible exact LeO.refl _)
      | (with_reducible exact LeO.none _)
      | (with_reducible refine LeO.ite ?_ ?_)
      | (with_reducible refine LeO.bind ?_ (fun _ => ?_))
      | exact ih0 _ _ _ _ _ _ _ _
      | exact ih1 _ _ _ _ _ _ _ _
      | exact ih2 _ _ _ _ _ _ _ _
      | exact ih3 _ _ _ _ _
      | exact ih4 _ _ _ _ _
      | exact itv_Move.mono _ _ _ _
      | exact warrantorlaw07_lives.mono _
      | exact LeO.none _
      | refine LeO.ite ?_ ?_
      | refine LeO.bind ?_ (fun _ => ?_)
    · intro y0 y1 y2 y3 y4
      unfold warrantorlaw07_ItvSets.j3
      repeat' first
      | (with_reducible exact ih0 _ _ _ _ _ _ _ _)
      | (with_reducible exact ih1 _ _ _ _ _ _ _ _)
      | (with_reducible exact ih2 _ _ _ _ _ _ _ _)
      | (with_reducible exact ih3 _ _ _ _ _)
      | (with_reducible exact ih4 _ _ _ _ _)
      | (with_reducible exact itv_Move.mono _ _ _ _)
      | (with_reducible exact warrantorlaw07_lives.mono _)
      | (with_reducible exact LeO.refl _)
      | (with_reducible exact LeO.none _)
      | (with_reducible refine LeO.ite ?_ ?_)
      | (with_reducible refine LeO.bind ?_ (fun _ => ?_))
      | exact ih0 _ _ _ _ _ _ _ _
      | exact ih1 _ _ _ _ _ _ _ _
      | exact ih2 _ _ _ _ _ _ _ _
      | exact ih3 _ _ _ _ _
      | exact ih4 _ _ _ _ _
      | exact itv_Move.mono _ _ _ _
      | exact warrantorlaw07_lives.mono _
      | exact LeO.none _
      | refine LeO.ite ?_ ?_
      | refine LeO.bind ?_ (fun _ => ?_)
    · intro y0 y1 y2 y3 y4
      unfold warrantorlaw07_ItvSets.j4
      repeat' first
      | (with_reducible exact ih0 _ _ _ _ _ _ _ _)
      | (with_reducible exact ih1 _ _ _ _ _ _ _ _)
      | (with_reducible exact ih2 _ _ _ _ _ _ _ _)
      | (with_reducible exact ih3 _ _ _ _ _)
      | (with_reducible exact ih4 _ _ _ _ _)
      | (with_reducible exact itv_Move.mono _ _ _ _)
      | (with_reducible exact warrantorlaw07_lives.mono _)
      | (with_reducible exact LeO.refl _)
      | (with_reducible exact LeO.none _)
      | (with_reducible refine LeO.ite ?_ ?_)
      | (with_reducible refine LeO.bind ?_ (fun _ => ?_))
      | exact ih0 _ _ _ _ _ _ _ _
      | exact ih1 _ _ _ _ _ _ _ _
      | exact ih2 _ _ _ _ _ _ _ _
      | exact ih3 _ _ _ _ _
      | exact ih4 _ _ _ _ _
      | exact itv_Move.mono _ _ _ _
      | exact warrantorlaw07_lives.mono _
      | exact LeO.none _
      | refine LeO.ite ?_ ?_
      | refine LeO.bind ?_ (fun _ => ?_)
theorem warrantorlaw07_ItvSets.mono : ∀ a0 a1 a2 a3 a4 a5 a6 k, LeO (warrantorlaw07_ItvSets.f k a0 a1 a2 a3 a4 a5 a6) (warrantorlaw07_ItvSets.f (k + 1) a0 a1 a2 a3 a4 a5 a6) := by
  intro a0 a1 a2 a3 a4 a5 a6 k
  obtain ⟨ih0, ih1, ih2, ih3, ih4⟩ := warrantorlaw07_ItvSets.mono_l k
  unfold warrantorlaw07_ItvSets.f
  repeat' first
      | (with_reducible exact ih0 _ _ _ _ _ _ _ _)
      | (with_reducible exact ih1 _ _ _ _ _ _ _ _)
      | (with_reducible exact ih2 _ _ _ _ _ _ _ _)
      | (with_reducible exact ih3 _ _ _ _ _)
      | (with_reducible exact ih4 _ _ _ _ _)
      | (with_reducible exact itv_Move.mono _ _ _ _)
      | (with_reducible exact warrantorlaw07_lives.mono _)
      | (with_reducible exact LeO.refl _)
      | (with_reducible exact LeO.none _)
      | (with_reducible refine LeO.ite ?_ ?_)
      | (with_reducible refine LeO.bind ?_ (fun _ => ?_))
      | exact ih0 _ _ _ _ _ _ _ _
      | exact ih1 _ _ _ _ _ _ _ _
      | exact ih2 _ _ _ _ _ _ _ _
      | exact ih3 _ _ _ _ _
      | exact ih4 _ _ _ _ _
      | exact itv_Move.mono _ _ _ _
      | exact warrantorlaw07_lives.mono _
      | exact LeO.none _
      | refine LeO.ite ?_ ?_
      | refine LeO.bind ?_ (fun _ => ?_)
def warrantorlaw07_ItvSets.T1 : Bool × List (List Nat × List Nat) := (true, [([], []), ([0], [0]), ([1, 0], [1]), ([2], [2]), ([2], [2]), ([3, 4, 2, 2], [2, 3, 4]), ([2], [2]), ([5, 6, 5, 2], [2, 5, 6]), ([2], [2]), ([2], [2]), ([8, 9, 7, 2], [2, 8, 9]), ([10, 10, 2], [2, 10]), ([11], [11]), ([11], [11]), ([12, 13, 11, 11], [11, 12, 13]), ([11, 14, 2], [2, 11, 14]), ([7, 15, 2], [2, 7, 15]), ([2, 16], [2, 16]), ([17, 14], [17]), ([18, 18], [18]), ([18], [18]), ([19, 20, 19, 18], [18, 19, 20]), ([18], [18]), ([22, 21, 18], [18, 22]), ([21, 23, 18], [18, 21, 23]), ([18, 24], [18, 24]), ([25, 23], [25]), ([26, 26], [26]), ([26], [26]), ([27, 28, 27, 26], [26, 27, 28]), ([26, 29], [26, 29])])
def warrantorlaw07_ItvSets.B1 : List Nat := [0, 1, 3, 7, 7, 31, 7, 127, 7, 7, 1023, 2047, 4095, 4095, 16383, 32767, 65535, 131071, 262143, 524287, 524287, 2097151, 524287, 8388607, 16777215, 33554431, 67108863, 134217727, 134217727, 536870911, 1073741823]
theorem warrantorlaw07_ItvSets.tab1 : rtab .any (opsOf Tryd.f4 1) = warrantorlaw07_ItvSets.T1 := by kernel_rfl
theorem warrantorlaw07_ItvSets.bits1 : waitsOk warrantorlaw07_ItvSets.T1.2 warrantorlaw07_ItvSets.B1 = true := by kernel_rfl
def warrantorlaw07_ItvSets.T5 : Bool × List (List Nat × List Nat) := (true, [([], []), ([0], [0]), ([1, 1], [1]), ([2], [2]), ([3, 2, 2], [2, 3]), ([2], [2]), ([5, 2], [2, 5]), ([4, 6, 4, 2], [2, 4, 6]), ([2], [2]), ([2], [2]), ([8, 9, 7, 2], [2, 8, 9]), ([7, 10, 2], [2, 7, 10]), ([2, 11], [2, 11])])
def warrantorlaw07_ItvSets.B5 : List Nat := [0, 1, 3, 7, 15, 7, 39, 127, 7, 7, 1023, 2047, 4095]
theorem warrantorlaw07_ItvSets.tab5 : rtab .any (opsOf Tryd.f4 5) = warrantorlaw07_ItvSets.T5 := by kernel_rfl
theorem warrantorlaw07_ItvSets.bits5 : waitsOk warrantorlaw07_ItvSets.T5.2 warrantorlaw07_ItvSets.B5 = true := by kernel_rfl
def warrantorlaw07_ItvSets.T11 : Bool × List (List Nat × List Nat) := (true, [([], []), ([], []), ([0, 1], [0, 1]), ([2], [2]), ([3], [3]), ([4, 3], [4]), ([5], [5]), ([5], [5]), ([6, 7, 5, 5], [5, 6, 7]), ([5], [5]), ([8, 9, 8, 5], [5, 8, 9]), ([5], [5]), ([5], [5]), ([5], [5]), ([12, 13, 5], [5, 12, 13]), ([11, 14, 10, 5], [5, 11, 14]), ([10, 15, 5], [5, 10, 15]), ([5, 16], [5, 16]), ([17, 15, 0, 1, 2, 3, 4, 5, 6, 7, 8, 9, 10, 11, 12, 13, 14, 15, 16, 17], [17])])
def warrantorlaw07_ItvSets.B11 : List Nat := [0, 0, 3, 7, 15, 31, 63, 63, 255, 63, 1023, 63, 63, 63, 12351, 32767, 65535, 131071, 262143]
theorem warrantorlaw07_ItvSets.tab11 : rtab .any (opsOf Tryd.f4 11) = warrantorlaw07_ItvSets.T11 := by kernel_rfl
theorem warrantorlaw07_ItvSets.bits11 : waitsOk warrantorlaw07_ItvSets.T11.2 warrantorlaw07_ItvSets.B11 = true := by kernel_rfl
set_option maxHeartbeats 8000000 in
set_option maxRecDepth 100000 in
theorem warrantorlaw07_ItvSets.calls (k : Nat) (a0_0 : Int) (a0_1 : Int) (a1_0 : Int) (a1_1 : Int) (a2 : Int) (a3 : Int) (a4 : Int) (r : Bool) (w : World) (htab : TB w) (h : warrantorlaw07_ItvSets.f k a0_0 a0_1 a1_0 a1_1 a2 a3 a4 = some r) :
    Calls Tryd.prog 4 #[.agg #[.int .i64 a0_0, .int .i64 a0_1], .agg #[.int .i64 a1_0, .int .i64 a1_1], .int .i64 a2, .int .i64 a3, .int .i64 a4] w fun e w' => e = .returned (.bool r) ∧ Below w.heap.size w w' := by
  have HTB := Aside0.mk htab
  clear htab
  have hu23 := Tryd.underlying23
  have HB := Aside0.mk (Below.refl w.heap.size w)
  have H : ((warrantorlaw07_lives.f k).bind fun t416 => (if t416 = true then ((itv_Meet.f a0_0 a0_1 a1_0 a1_1).bind fun bt417 => ((itv_Has.f bt417.1 bt417.2 a3).bind fun t419 => ((itv_Has.f a0_0 a0_1 a3).bind fun t420 => (if t420 = true then ((itv_Has.f a1_0 a1_1 a3).bind fun t421 => (if (t419 != t421) = true then (none) else ((itv_All.f).bind fun bt422 => ((itv_Has.f bt422.1 bt422.2 a3).bind fun t424 => ((warrantorref06_Is.f a3).bind fun t425 => (if (t424 != t425) = true then (none) else ((itv_None.f).bind fun bt426 => ((itv_Has.f bt426.1 bt426.2 a3).bind fun t428 => (warrantorlaw07_ItvSets.j0 k a2 a3 a4 t428 a0_0 a0_1 a1_0 a1_1))))))))) else (if (t419 != false) = true then (none) else ((itv_All.f).bind fun bt429 => ((itv_Has.f bt429.1 bt429.2 a3).bind fun t431 => ((warrantorref06_Is.f a3).bind fun t432 => (if (t431 != t432) = true then (none) else ((itv_None.f).bind fun bt433 => ((itv_Has.f bt433.1 bt433.2 a3).bind fun t435 => (warrantorlaw07_ItvSets.j0 k a2 a3 a4 t435 a0_0 a0_1 a1_0 a1_1)))))))))))) else (none))) = some r := h
  clear h
  have HC6 := Aside0.mk H
  clear H
  go_enter Tryd.func4, Tryd.ntmps4
  go_upto_region 1 with (first | ((with_reducible refine gate_dst (N := 5) rfl ?_); refine box_event ?hg (N := 5) ?hd (cs := #[.int .i64 a0_0, .int .i64 a0_1]) (t := 23) ?hr ?_; (case hd => rfl); (case hg => rfl); (case hr => first | (go_simp; done) | (go_simp; rfl)); intro gb414 hg w7 hbox hb; have n0_ := Aside0.mk (below_step HB_ hb); have n1_ := Aside0.mk (hbox); have n2_ := Aside0.mk ((by rw [hg]; exact (below_size HB_) : w.heap.size ≤ gb414)); have n3_ := Aside0.mk ((by rw [hg]; exact (below_size HB_) : w.heap.size ≤ gb414)); clear HB; have HB := n0_; have BK414 := n1_; have GW414 := n2_; have GE414 := n3_; clear n0_ n1_ n2_ n3_; clear hb hbox hg) | ((with_reducible refine gate_dst (N := 6) rfl ?_); refine box_event ?hg (N := 6) ?hd (cs := #[.int .i64 a1_0, .int .i64 a1_1]) (t := 23) ?hr ?_; (case hd => rfl); (case hg => rfl); (case hr => first | (go_simp; done) | (go_simp; rfl)); intro gb415 hg w8 hbox hb; have n0_ := Aside0.mk (blk_below (g := gb414) (o := .cells #[.int .i64 a0_0, .int .i64 a0_1] 23 (0, 0)) (bk_ BK414.out) hb); have n1_ := Aside0.mk (below_step HB_ hb); have n2_ := Aside0.mk (hbox); have n3_ := Aside0.mk ((by rw [hg]; exact (below_size HB_) : w.heap.size ≤ gb415)); have n4_ := Aside0.mk ((by rw [hg]; exact (below_size HB_) : w.heap.size ≤ gb415)); have n5_ := Aside0.mk ((by rw [hg]; exact Nat.ne_of_lt (blk_lt (g := gb414) (o := .cells #[.int .i64 a0_0, .int .i64 a0_1] 23 (0, 0)) (bk_ BK414.out)) : gb414 ≠ gb415)); have n6_ := Aside0.mk ((by rw [hg]; exact Nat.ne_of_gt (blk_lt (g := gb414) (o := .cells #[.int .i64 a0_0, .int .i64 a0_1] 23 (0, 0)) (bk_ BK414.out)) : gb415 ≠ gb414)); clear BK414; clear HB; have BK414 := n0_; have HB := n1_; have BK415 := n2_; have GW415 := n3_; have GE415 := n4_; have NB414_415 := n5_; have NB415_414 := n6_; clear n0_ n1_ n2_ n3_ n4_ n5_ n6_; clear hb hbox hg))
  (try simp only [Act.put, List.setIfInBounds_toArray, List.set_cons_zero, List.set_cons_succ])
  go_cut [41] (fun v41 wc => ∃ (kq : Nat) (x41_5 : Bool), v41 = .bool x41_5 ∧ Aside0 (warrantorlaw07_ItvSets.j0 kq a2 a3 a4 x41_5 a0_0 a0_1 a1_0 a1_1 = some r) ∧ Aside0 (kq ≤ k) ∧ Aside0 (wc.heap[gb414]? = some (.cells #[.int .i64 a0_0, .int .i64 a0_1] 23 (0, 0))) ∧ Aside0 (wc.heap[gb415]? = some (.cells #[.int .i64 a1_0, .int .i64 a1_1] 23 (0, 0))) ∧ Aside0 (Below w.heap.size w wc))
  case first =>
    have H := HC6.out
    clear HC6
    replace H := Option.bind_eq_some_iff.mp H
    obtain ⟨t416, A90, H⟩ := H
    replace H : (if t416 = true then ((itv_Meet.f a0_0 a0_1 a1_0 a1_1).bind fun bt417 => ((itv_Has.f bt417.1 bt417.2 a3).bind fun t419 => ((itv_Has.f a0_0 a0_1 a3).bind fun t420 => (if t420 = true then ((itv_Has.f a1_0 a1_1 a3).bind fun t421 => (if (t419 != t421) = true then (none) else ((itv_All.f).bind fun bt422 => ((itv_Has.f bt422.1 bt422.2 a3).bind fun t424 => ((warrantorref06_Is.f a3).bind fun t425 => (if (t424 != t425) = true then (none) else ((itv_None.f).bind fun bt426 => ((itv_Has.f bt426.1 bt426.2 a3).bind fun t428 => (warrantorlaw07_ItvSets.j0 k a2 a3 a4 t428 a0_0 a0_1 a1_0 a1_1))))))))) else (if (t419 != false) = true then (none) else ((itv_All.f).bind fun bt429 => ((itv_Has.f bt429.1 bt429.2 a3).bind fun t431 => ((warrantorref06_Is.f a3).bind fun t432 => (if (t431 != t432) = true then (none) else ((itv_None.f).bind fun bt433 => ((itv_Has.f bt433.1 bt433.2 a3).bind fun t435 => (warrantorlaw07_ItvSets.j0 k a2 a3 a4 t435 a0_0 a0_1 a1_0 a1_1)))))))))))) else (none)) = some r := H
    have A9 := Aside0.mk A90
    clear A90
    by_cases c10 : t416 = true
    · subst c10
      have H1 : ((itv_Meet.f a0_0 a0_1 a1_0 a1_1).bind fun bt417 => ((itv_Has.f bt417.1 bt417.2 a3).bind fun t419 => ((itv_Has.f a0_0 a0_1 a3).bind fun t420 => (if t420 = true then ((itv_Has.f a1_0 a1_1 a3).bind fun t421 => (if (t419 != t421) = true then (none) else ((itv_All.f).bind fun bt422 => ((itv_Has.f bt422.1 bt422.2 a3).bind fun t424 => ((warrantorref06_Is.f a3).bind fun t425 => (if (t424 != t425) = true then (none) else ((itv_None.f).bind fun bt426 => ((itv_Has.f bt426.1 bt426.2 a3).bind fun t428 => (warrantorlaw07_ItvSets.j0 k a2 a3 a4 t428 a0_0 a0_1 a1_0 a1_1))))))))) else (if (t419 != false) = true then (none) else ((itv_All.f).bind fun bt429 => ((itv_Has.f bt429.1 bt429.2 a3).bind fun t431 => ((warrantorref06_Is.f a3).bind fun t432 => (if (t431 != t432) = true then (none) else ((itv_None.f).bind fun bt433 => ((itv_Has.f bt433.1 bt433.2 a3).bind fun t435 => (warrantorlaw07_ItvSets.j0 k a2 a3 a4 t435 a0_0 a0_1 a1_0 a1_1)))))))))))) = some r := by rw [if_pos rfl] at H; exact H
      clear H
      have H := H1
      clear H1
      replace H := Option.bind_eq_some_iff.mp H
      obtain ⟨⟨t417, t418⟩, A110, H⟩ := H
      replace H : ((itv_Has.f t417 t418 a3).bind fun t419 => ((itv_Has.f a0_0 a0_1 a3).bind fun t420 => (if t420 = true then ((itv_Has.f a1_0 a1_1 a3).bind fun t421 => (if (t419 != t421) = true then (none) else ((itv_All.f).bind fun bt422 => ((itv_Has.f bt422.1 bt422.2 a3).bind fun t424 => ((warrantorref06_Is.f a3).bind fun t425 => (if (t424 != t425) = true then (none) else ((itv_None.f).bind fun bt426 => ((itv_Has.f bt426.1 bt426.2 a3).bind fun t428 => (warrantorlaw07_ItvSets.j0 k a2 a3 a4 t428 a0_0 a0_1 a1_0 a1_1))))))))) else (if (t419 != false) = true then (none) else ((itv_All.f).bind fun bt429 => ((itv_Has.f bt429.1 bt429.2 a3).bind fun t431 => ((warrantorref06_Is.f a3).bind fun t432 => (if (t431 != t432) = true then (none) else ((itv_None.f).bind fun bt433 => ((itv_Has.f bt433.1 bt433.2 a3).bind fun t435 => (warrantorlaw07_ItvSets.j0 k a2 a3 a4 t435 a0_0 a0_1 a1_0 a1_1))))))))))) = some r := H
      have A11 := Aside0.mk A110
      clear A110
      replace H := Option.bind_eq_some_iff.mp H
      obtain ⟨t419, A120, H⟩ := H
      replace H : ((itv_Has.f a0_0 a0_1 a3).bind fun t420 => (if t420 = true then ((itv_Has.f a1_0 a1_1 a3).bind fun t421 => (if (t419 != t421) = true then (none) else ((itv_All.f).bind fun bt422 => ((itv_Has.f bt422.1 bt422.2 a3).bind fun t424 => ((warrantorref06_Is.f a3).bind fun t425 => (if (t424 != t425) = true then (none) else ((itv_None.f).bind fun bt426 => ((itv_Has.f bt426.1 bt426.2 a3).bind fun t428 => (warrantorlaw07_ItvSets.j0 k a2 a3 a4 t428 a0_0 a0_1 a1_0 a1_1))))))))) else (if (t419 != false) = true then (none) else ((itv_All.f).bind fun bt429 => ((itv_Has.f bt429.1 bt429.2 a3).bind fun t431 => ((warrantorref06_Is.f a3).bind fun t432 => (if (t431 != t432) = true then (none) else ((itv_None.f).bind fun bt433 => ((itv_Has.f bt433.1 bt433.2 a3).bind fun t435 => (warrantorlaw07_ItvSets.j0 k a2 a3 a4 t435 a0_0 a0_1 a1_0 a1_1)))))))))) = some r := H
      have A12 := Aside0.mk A120
      clear A120
      replace H := Option.bind_eq_some_iff.mp H
      obtain ⟨t420, A130, H⟩ := H
      replace H : (if t420 = true then ((itv_Has.f a1_0 a1_1 a3).bind fun t421 => (if (t419 != t421) = true then (none) else ((itv_All.f).bind fun bt422 => ((itv_Has.f bt422.1 bt422.2 a3).bind fun t424 => ((warrantorref06_Is.f a3).bind fun t425 => (if (t424 != t425) = true then (none) else ((itv_None.f).bind fun bt426 => ((itv_Has.f bt426.1 bt426.2 a3).bind fun t428 => (warrantorlaw07_ItvSets.j0 k a2 a3 a4 t428 a0_0 a0_1 a1_0 a1_1))))))))) else (if (t419 != false) = true then (none) else ((itv_All.f).bind fun bt429 => ((itv_Has.f bt429.1 bt429.2 a3).bind fun t431 => ((warrantorref06_Is.f a3).bind fun t432 => (if (t431 != t432) = true then (none) else ((itv_None.f).bind fun bt433 => ((itv_Has.f bt433.1 bt433.2 a3).bind fun t435 => (warrantorlaw07_ItvSets.j0 k a2 a3 a4 t435 a0_0 a0_1 a1_0 a1_1))))))))) = some r := H
      have A13 := Aside0.mk A130
      clear A130
      by_cases c14 : t420 = true
      · subst c14
        have H1 : ((itv_Has.f a1_0 a1_1 a3).bind fun t421 => (if (t419 != t421) = true then (none) else ((itv_All.f).bind fun bt422 => ((itv_Has.f bt422.1 bt422.2 a3).bind fun t424 => ((warrantorref06_Is.f a3).bind fun t425 => (if (t424 != t425) = true then (none) else ((itv_None.f).bind fun bt426 => ((itv_Has.f bt426.1 bt426.2 a3).bind fun t428 => (warrantorlaw07_ItvSets.j0 k a2 a3 a4 t428 a0_0 a0_1 a1_0 a1_1))))))))) = some r := by rw [if_pos rfl] at H; exact H
        clear H
        have H := H1
        clear H1
        replace H := Option.bind_eq_some_iff.mp H
        obtain ⟨t421, A150, H⟩ := H
        replace H : (if (t419 != t421) = true then (none) else ((itv_All.f).bind fun bt422 => ((itv_Has.f bt422.1 bt422.2 a3).bind fun t424 => ((warrantorref06_Is.f a3).bind fun t425 => (if (t424 != t425) = true then (none) else ((itv_None.f).bind fun bt426 => ((itv_Has.f bt426.1 bt426.2 a3).bind fun t428 => (warrantorlaw07_ItvSets.j0 k a2 a3 a4 t428 a0_0 a0_1 a1_0 a1_1)))))))) = some r := H
        have A15 := Aside0.mk A150
        clear A150
        by_cases c16 : (t419 != t421) = true
        · rw [if_pos c16] at H
          exact absurd H (by simp)
        · rw [if_neg c16] at H
          have c16b0 : (t419 != t421) = false := by simpa using c16
          (try (have c16b1 : decide (t419 = t421) = true := by simpa using c16))
          (try (have c16b2 : (t419 == t421) = true := by simpa using c16))
          clear c16
          (first | rw [c16b0] | (simp only [i64_w, i32_w]; rw [c16b0]) | skip)
          replace H := Option.bind_eq_some_iff.mp H
          obtain ⟨⟨t422, t423⟩, A170, H⟩ := H
          replace H : ((itv_Has.f t422 t423 a3).bind fun t424 => ((warrantorref06_Is.f a3).bind fun t425 => (if (t424 != t425) = true then (none) else ((itv_None.f).bind fun bt426 => ((itv_Has.f bt426.1 bt426.2 a3).bind fun t428 => (warrantorlaw07_ItvSets.j0 k a2 a3 a4 t428 a0_0 a0_1 a1_0 a1_1)))))) = some r := H
          have A17 := Aside0.mk A170
          clear A170
          replace H := Option.bind_eq_some_iff.mp H
          obtain ⟨t424, A180, H⟩ := H
          replace H : ((warrantorref06_Is.f a3).bind fun t425 => (if (t424 != t425) = true then (none) else ((itv_None.f).bind fun bt426 => ((itv_Has.f bt426.1 bt426.2 a3).bind fun t428 => (warrantorlaw07_ItvSets.j0 k a2 a3 a4 t428 a0_0 a0_1 a1_0 a1_1))))) = some r := H
          have A18 := Aside0.mk A180
          clear A180
          replace H := Option.bind_eq_some_iff.mp H
          obtain ⟨t425, A190, H⟩ := H
          replace H : (if (t424 != t425) = true then (none) else ((itv_None.f).bind fun bt426 => ((itv_Has.f bt426.1 bt426.2 a3).bind fun t428 => (warrantorlaw07_ItvSets.j0 k a2 a3 a4 t428 a0_0 a0_1 a1_0 a1_1)))) = some r := H
          have A19 := Aside0.mk A190
          clear A190
          by_cases c20 : (t424 != t425) = true
          · rw [if_pos c20] at H
            exact absurd H (by simp)
          · rw [if_neg c20] at H
            have c20b0 : (t424 != t425) = false := by simpa using c20
            (try (have c20b1 : decide (t424 = t425) = true := by simpa using c20))
            (try (have c20b2 : (t424 == t425) = true := by simpa using c20))
            clear c20
            replace H := Option.bind_eq_some_iff.mp H
            obtain ⟨⟨t426, t427⟩, A210, H⟩ := H
            replace H : ((itv_Has.f t426 t427 a3).bind fun t428 => (warrantorlaw07_ItvSets.j0 k a2 a3 a4 t428 a0_0 a0_1 a1_0 a1_1)) = some r := H
            have A21 := Aside0.mk A210
            clear A210
            replace H := Option.bind_eq_some_iff.mp H
            obtain ⟨t428, A220, H⟩ := H
            replace H : (warrantorlaw07_ItvSets.j0 k a2 a3 a4 t428 a0_0 a0_1 a1_0 a1_1) = some r := H
            have A22 := Aside0.mk A220
            clear A220
            have H' := Aside0.mk H
            clear H
            try go_wp2
            first | (obtain ⟨w8, hq_⟩ : ∃ x, x = w8.drewN nd := ⟨_, rfl⟩; rw [← hq_]; have q0_ := Aside0.mk (blk_drewN BK414.out nd); rw [← hq_] at q0_; have q1_ := Aside0.mk (blk_drewN BK415.out nd); rw [← hq_] at q1_; have q2_ := Aside0.mk (pw_below_drewN HB.out nd); rw [← hq_] at q2_; clear BK414; clear BK415; clear HB; have BK414 := q0_; have BK415 := q1_; have HB := q2_; clear hq_ q0_ q1_ q2_) | skip
            have n0_ := Aside0.mk (blk_drew BK414.out)
            have n1_ := Aside0.mk (blk_drew BK415.out)
            have n2_ := Aside0.mk (below_drew1 HB.out)
            clear BK414
            clear BK415
            clear HB
            have BK414 := n0_
            have BK415 := n1_
            have HB := n2_
            clear n0_ n1_ n2_
            refine start_ (n := 31) (S := fun w' => w'.cell? ⟨gb414, 0, none⟩ = some (.int .i64 a0_0) ∧ w'.cell? ⟨gb414, 1, none⟩ = some (.int .i64 a0_1) ∧ w'.cell? ⟨gb415, 0, none⟩ = some (.int .i64 a1_0) ∧ w'.cell? ⟨gb415, 1, none⟩ = some (.int .i64 a1_1)) (ds := []) #[false, false, false, false, false, false, false, false, false, false, false, false, false, false, false, false, false, false, false, false, false, false, false, false, false, false, false, false, false, false, false] (by kernel_rfl) rfl rfl ⟨(blk_cell BK414.out 0).trans rfl, (blk_cell BK414.out 1).trans rfl, (blk_cell BK415.out 0).trans rfl, (blk_cell BK415.out 1).trans rfl⟩ (fun hHeld => ?_); refine with_tabW warrantorlaw07_ItvSets.tab1 warrantorlaw07_ItvSets.bits1 (fun HT_ HW_ => ?_)
            generalize w8.drew = w23 at BK414 BK415 HB hHeld ⊢
            refine one_ (i := 0) (N := some 11) #[true, false, false, false, false, false, false, false, false, false, false, false, false, false, false, false, false, false, false, false, false, false, false, false, false, false, false, false, false, false, false] rfl rfl (one_of HT_.out (by kernel_rfl)) (by decide) (fun K hK => ?_)
            refine goes_ Tryd.func8 (by kernel_rfl) rfl #[] (by rfl) rfl rfl MP_ ?_
            with_reducible refine (warrantorlaw07_lives.calls k  true _ (tb_below HTB.out HB_) A9.out).mono ?_
            rintro e w24 ⟨rfl, hb⟩
            refine ⟨_, rfl, ?_⟩
            have n0_ := Aside0.mk (blk_below (g := gb414) (o := .cells #[.int .i64 a0_0, .int .i64 a0_1] 23 (0, 0)) (bk_ BK414.out) hb)
            have n1_ := Aside0.mk (blk_below (g := gb415) (o := .cells #[.int .i64 a1_0, .int .i64 a1_1] 23 (0, 0)) (bk_ BK415.out) hb)
            have n2_ := Aside0.mk (below_step HB_ hb)
            clear BK414
            clear BK415
            clear HB
            have BK414 := n0_
            have BK415 := n1_
            have HB := n2_
            clear n0_ n1_ n2_
            (try clear hb)
            (try clear hb2)
            (try clear hk)
            (try clear hi)
            refine hK.out _ _ ⟨(blk_cell BK414.out 0).trans rfl, (blk_cell BK414.out 1).trans rfl, (blk_cell BK415.out 0).trans rfl, (blk_cell BK415.out 1).trans rfl⟩ (fun hHeld => ?_)
            clear hK K
            refine norm_ (a' := ?_) ?_ ?_
            rotate_left
            · show Act.put _ (some 11) _ = _
              simp only [Act.put, List.setIfInBounds_toArray, List.set_cons_zero, List.set_cons_succ, i64_w, i32_w]
              rfl
            refine pure_ (i := 1) (N := some 12) (v := ?_) (a' := ?_) #[true, true, false, false, false, false, false, false, false, false, false, false, false, false, false, false, false, false, false, false, false, false, false, false, false, false, false, false, false, false, false] rfl rfl (any_of HT_.out (by kernel_rfl)) (fun _ _ _ h => h) (Or.inl ⟨by rfl, ?_⟩) ?_ ?_
            rotate_left
            · intro w'
              go_simp
              with_reducible rfl
            rotate_left
            · exact AP_
            refine pure_ (i := 2) (N := some 13) (v := ?_) (a' := ?_) #[true, true, true, false, false, false, false, false, false, false, false, false, false, false, false, false, false, false, false, false, false, false, false, false, false, false, false, false, false, false, false] rfl rfl (any_of HT_.out (by kernel_rfl)) (fun _ _ _ h => h) (Or.inl ⟨by rfl, ?_⟩) ?_ ?_
            rotate_left
            · intro w'
              go_simp
              with_reducible rfl
            rotate_left
            · exact AP_
            refine pure_ (i := 6) (N := some 17) (v := ?_) (a' := ?_) #[true, true, true, false, false, false, true, false, false, false, false, false, false, false, false, false, false, false, false, false, false, false, false, false, false, false, false, false, false, false, false] rfl rfl (any_of HT_.out (by kernel_rfl)) (fun _ _ _ h => h) (Or.inl ⟨by rfl, ?_⟩) ?_ ?_
            rotate_left
            · intro w'
              go_simp
              with_reducible rfl
            rotate_left
            · exact AP_
            refine pure_ (i := 9) (N := some 20) (v := ?_) (a' := ?_) #[true, true, true, false, false, false, true, false, false, true, false, false, false, false, false, false, false, false, false, false, false, false, false, false, false, false, false, false, false, false, false] rfl rfl (any_of HT_.out (by kernel_rfl)) (fun _ _ _ h => h) (Or.inl ⟨by rfl, ?_⟩) ?_ ?_
            rotate_left
            · intro w'
              go_simp
              with_reducible rfl
            rotate_left
            · exact AP_
            refine take_ (i := 3) (N := some 14) (v := ?_) (a' := ?_) #[true, true, true, true, false, false, true, false, false, true, false, false, false, false, false, false, false, false, false, false, false, false, false, false, false, false, false, false, false, false, false] rfl rfl (take_ofW HT_.out HW_.out (by kernel_rfl)) (fun _ _ _ h => h) (Or.inl ⟨by rfl, ?_⟩) hHeld ?_ ?_
            rotate_left
            · rintro w' ⟨s0, s1, s2, s3⟩
              go_simp
              with_reducible rfl
            rotate_left
            · exact AP_
            refine take_ (i := 4) (N := some 15) (v := ?_) (a' := ?_) #[true, true, true, true, true, false, true, false, false, true, false, false, false, false, false, false, false, false, false, false, false, false, false, false, false, false, false, false, false, false, false] rfl rfl (take_ofW HT_.out HW_.out (by kernel_rfl)) (fun _ _ _ h => h) (Or.inl ⟨by rfl, ?_⟩) hHeld ?_ ?_
            rotate_left
            · rintro w' ⟨s0, s1, s2, s3⟩
              go_simp
              with_reducible rfl
            rotate_left
            · exact AP_
            refine take_ (i := 8) (N := some 19) (v := ?_) (a' := ?_) #[true, true, true, true, true, false, true, false, true, true, false, false, false, false, false, false, false, false, false, false, false, false, false, false, false, false, false, false, false, false, false] rfl rfl (take_ofW HT_.out HW_.out (by kernel_rfl)) (fun _ _ _ h => h) (Or.inl ⟨by rfl, ?_⟩) hHeld ?_ ?_
            rotate_left
            · rintro w' ⟨s0, s1, s2, s3⟩
              go_simp
              with_reducible rfl
            rotate_left
            · exact AP_
            refine one_ (i := 5) (N := some 16) #[true, true, true, true, true, true, true, false, true, true, false, false, false, false, false, false, false, false, false, false, false, false, false, false, false, false, false, false, false, false, false] rfl rfl (one_of HT_.out (by kernel_rfl)) (by decide) (fun K hK => ?_)
            refine goes_ Tryd.func21 (by kernel_rfl) rfl #[.agg #[.int .i64 a0_0, .int .i64 a0_1], .agg #[.int .i64 a1_0, .int .i64 a1_1]] (by rfl) rfl rfl MP_ ?_
            with_reducible refine (itv_Meet.calls a0_0 a0_1 a1_0 a1_1 t417 t418 _ A11.out).mono ?_
            rintro e w25 ⟨rfl, hb⟩
            refine ⟨_, rfl, ?_⟩
            have n0_ := Aside0.mk (blk_below (g := gb414) (o := .cells #[.int .i64 a0_0, .int .i64 a0_1] 23 (0, 0)) (bk_ BK414.out) hb)
            have n1_ := Aside0.mk (blk_below (g := gb415) (o := .cells #[.int .i64 a1_0, .int .i64 a1_1] 23 (0, 0)) (bk_ BK415.out) hb)
            have n2_ := Aside0.mk (below_step HB_ hb)
            clear BK414
            clear BK415
            clear HB
            have BK414 := n0_
            have BK415 := n1_
            have HB := n2_
            clear n0_ n1_ n2_
            (try clear hb)
            (try clear hb2)
            (try clear hk)
            (try clear hi)
            refine hK.out _ _ ⟨(blk_cell BK414.out 0).trans rfl, (blk_cell BK414.out 1).trans rfl, (blk_cell BK415.out 0).trans rfl, (blk_cell BK415.out 1).trans rfl⟩ (fun hHeld => ?_)
            clear hK K
            refine norm_ (a' := ?_) ?_ ?_
            rotate_left
            · show Act.put _ (some 16) _ = _
              simp only [Act.put, List.setIfInBounds_toArray, List.set_cons_zero, List.set_cons_succ, i64_w, i32_w]
              rfl
            refine one_ (i := 7) (N := some 18) #[true, true, true, true, true, true, true, true, true, true, false, false, false, false, false, false, false, false, false, false, false, false, false, false, false, false, false, false, false, false, false] rfl rfl (one_of HT_.out (by kernel_rfl)) (by decide) (fun K hK => ?_)
            refine goes_ Tryd.func14 (by kernel_rfl) rfl #[.agg #[.int .i64 t417, .int .i64 t418], .int .i64 a3] (by rfl) rfl rfl MP_ ?_
            with_reducible refine (itv_Has.calls t417 t418 a3 t419 _ A12.out).mono ?_
            rintro e w26 ⟨rfl, hb⟩
            refine ⟨_, rfl, ?_⟩
            have n0_ := Aside0.mk (blk_below (g := gb414) (o := .cells #[.int .i64 a0_0, .int .i64 a0_1] 23 (0, 0)) (bk_ BK414.out) hb)
            have n1_ := Aside0.mk (blk_below (g := gb415) (o := .cells #[.int .i64 a1_0, .int .i64 a1_1] 23 (0, 0)) (bk_ BK415.out) hb)
            have n2_ := Aside0.mk (below_step HB_ hb)
            clear BK414
            clear BK415
            clear HB
            have BK414 := n0_
            have BK415 := n1_
            have HB := n2_
            clear n0_ n1_ n2_
            (try clear hb)
            (try clear hb2)
            (try clear hk)
            (try clear hi)
            refine hK.out _ _ ⟨(blk_cell BK414.out 0).trans rfl, (blk_cell BK414.out 1).trans rfl, (blk_cell BK415.out 0).trans rfl, (blk_cell BK415.out 1).trans rfl⟩ (fun hHeld => ?_)
            clear hK K
            refine norm_ (a' := ?_) ?_ ?_
            rotate_left
            · show Act.put _ (some 18) _ = _
              simp only [Act.put, List.setIfInBounds_toArray, List.set_cons_zero, List.set_cons_succ, i64_w, i32_w]
              rfl
            refine one_ (i := 10) (N := some 21) #[true, true, true, true, true, true, true, true, true, true, true, false, false, false, false, false, false, false, false, false, false, false, false, false, false, false, false, false, false, false, false] rfl rfl (one_of HT_.out (by kernel_rfl)) (by decide) (fun K hK => ?_)
            refine goes_ Tryd.func14 (by kernel_rfl) rfl #[.agg #[.int .i64 a0_0, .int .i64 a0_1], .int .i64 a3] (by rfl) rfl rfl MP_ ?_
            with_reducible refine (itv_Has.calls a0_0 a0_1 a3 true _ A13.out).mono ?_
            rintro e w27 ⟨rfl, hb⟩
            refine ⟨_, rfl, ?_⟩
            have n0_ := Aside0.mk (blk_below (g := gb414) (o := .cells #[.int .i64 a0_0, .int .i64 a0_1] 23 (0, 0)) (bk_ BK414.out) hb)
            have n1_ := Aside0.mk (blk_below (g := gb415) (o := .cells #[.int .i64 a1_0, .int .i64 a1_1] 23 (0, 0)) (bk_ BK415.out) hb)
            have n2_ := Aside0.mk (below_step HB_ hb)
            clear BK414
            clear BK415
            clear HB
            have BK414 := n0_
            have BK415 := n1_
            have HB := n2_
            clear n0_ n1_ n2_
            (try clear hb)
            (try clear hb2)
            (try clear hk)
            (try clear hi)
            refine hK.out _ _ ⟨(blk_cell BK414.out 0).trans rfl, (blk_cell BK414.out 1).trans rfl, (blk_cell BK415.out 0).trans rfl, (blk_cell BK415.out 1).trans rfl⟩ (fun hHeld => ?_)
            clear hK K
            refine norm_ (a' := ?_) ?_ ?_
            rotate_left
            · show Act.put _ (some 21) _ = _
              simp only [Act.put, List.setIfInBounds_toArray, List.set_cons_zero, List.set_cons_succ, i64_w, i32_w]
              rfl
            refine pure_ (i := 11) (N := some 22) (v := ?_) (a' := ?_) #[true, true, true, true, true, true, true, true, true, true, true, true, false, false, false, false, false, false, false, false, false, false, false, false, false, false, false, false, false, false, false] rfl rfl (any_of HT_.out (by kernel_rfl)) (fun _ _ _ h => h) (Or.inl ⟨by rfl, ?_⟩) ?_ ?_
            rotate_left
            · intro w'
              go_simp
              with_reducible rfl
            rotate_left
            · exact AP_
            refine pure_ (i := 13) (N := some 24) (v := ?_) (a' := ?_) #[true, true, true, true, true, true, true, true, true, true, true, true, false, true, false, false, false, false, false, false, false, false, false, false, false, false, false, false, false, false, false] rfl rfl (any_of HT_.out (by kernel_rfl)) (fun _ _ _ h => h) (Or.inl ⟨by rfl, ?_⟩) ?_ ?_
            rotate_left
            · intro w'
              go_simp
              with_reducible rfl
            rotate_left
            · exact AP_
            refine take_ (i := 12) (N := some 23) (v := ?_) (a' := ?_) #[true, true, true, true, true, true, true, true, true, true, true, true, true, true, false, false, false, false, false, false, false, false, false, false, false, false, false, false, false, false, false] rfl rfl (take_ofW HT_.out HW_.out (by kernel_rfl)) (fun _ _ _ h => h) (Or.inl ⟨by rfl, ?_⟩) hHeld ?_ ?_
            rotate_left
            · rintro w' ⟨s0, s1, s2, s3⟩
              go_simp
              with_reducible rfl
            rotate_left
            · exact AP_
            refine one_ (i := 14) (N := some 25) #[true, true, true, true, true, true, true, true, true, true, true, true, true, true, true, false, false, false, false, false, false, false, false, false, false, false, false, false, false, false, false] rfl rfl (one_of HT_.out (by kernel_rfl)) (by decide) (fun K hK => ?_)
            refine goes_ Tryd.func14 (by kernel_rfl) rfl #[.agg #[.int .i64 a1_0, .int .i64 a1_1], .int .i64 a3] (by rfl) rfl rfl MP_ ?_
            with_reducible refine (itv_Has.calls a1_0 a1_1 a3 t421 _ A15.out).mono ?_
            rintro e w28 ⟨rfl, hb⟩
            refine ⟨_, rfl, ?_⟩
            have n0_ := Aside0.mk (blk_below (g := gb414) (o := .cells #[.int .i64 a0_0, .int .i64 a0_1] 23 (0, 0)) (bk_ BK414.out) hb)
            have n1_ := Aside0.mk (blk_below (g := gb415) (o := .cells #[.int .i64 a1_0, .int .i64 a1_1] 23 (0, 0)) (bk_ BK415.out) hb)
            have n2_ := Aside0.mk (below_step HB_ hb)
            clear BK414
            clear BK415
            clear HB
            have BK414 := n0_
            have BK415 := n1_
            have HB := n2_
            clear n0_ n1_ n2_
            (try clear hb)
            (try clear hb2)
            (try clear hk)
            (try clear hi)
            refine hK.out _ _ ⟨(blk_cell BK414.out 0).trans rfl, (blk_cell BK414.out 1).trans rfl, (blk_cell BK415.out 0).trans rfl, (blk_cell BK415.out 1).trans rfl⟩ (fun hHeld => ?_)
            clear hK K
            refine norm_ (a' := ?_) ?_ ?_
            rotate_left
            · show Act.put _ (some 25) _ = _
              simp only [Act.put, List.setIfInBounds_toArray, List.set_cons_zero, List.set_cons_succ, i64_w, i32_w]
              rfl
            refine pure_ (i := 15) (N := some 26) (v := ?_) (a' := ?_) #[true, true, true, true, true, true, true, true, true, true, true, true, true, true, true, true, false, false, false, false, false, false, false, false, false, false, false, false, false, false, false] rfl rfl (any_of HT_.out (by kernel_rfl)) (fun _ _ _ h => h) (Or.inl ⟨by rfl, ?_⟩) ?_ ?_
            rotate_left
            · intro w'
              go_simp
              with_reducible rfl
            rotate_left
            · exact AP_
            refine pure_ (i := 16) (N := some 27) (v := ?_) (a' := ?_) #[true, true, true, true, true, true, true, true, true, true, true, true, true, true, true, true, true, false, false, false, false, false, false, false, false, false, false, false, false, false, false] rfl rfl (any_of HT_.out (by kernel_rfl)) (fun _ _ _ h => h) (Or.inl ⟨by rfl, ?_⟩) ?_ ?_
            rotate_left
            · intro w'
              go_simp
              with_reducible rfl
            rotate_left
            · exact AP_
            refine pure_ (i := 17) (N := some 28) (v := ?_) (a' := ?_) #[true, true, true, true, true, true, true, true, true, true, true, true, true, true, true, true, true, true, false, false, false, false, false, false, false, false, false, false, false, false, false] rfl rfl (any_of HT_.out (by kernel_rfl)) (fun _ _ _ h => h) (Or.inl ⟨by rfl, ?_⟩) ?_ ?_
            rotate_left
            · intro w'
              go_simp
              with_reducible rfl
            rotate_left
            · exact AP_
            refine pure_ (i := 18) (N := some 29) (v := ?_) (a' := ?_) #[true, true, true, true, true, true, true, true, true, true, true, true, true, true, true, true, true, true, true, false, false, false, false, false, false, false, false, false, false, false, false] rfl rfl (any_of HT_.out (by kernel_rfl)) (fun _ _ _ h => h) (Or.inl ⟨by rfl, ?_⟩) ?_ ?_
            rotate_left
            · intro w'
              go_simp
              with_reducible rfl
            rotate_left
            · exact AP_
            refine pure_ (i := 20) (N := some 31) (v := ?_) (a' := ?_) #[true, true, true, true, true, true, true, true, true, true, true, true, true, true, true, true, true, true, true, false, true, false, false, false, false, false, false, false, false, false, false] rfl rfl (any_of HT_.out (by kernel_rfl)) (fun _ _ _ h => h) (Or.inl ⟨by rfl, ?_⟩) ?_ ?_
            rotate_left
            · intro w'
              go_simp
              with_reducible rfl
            rotate_left
            · exact AP_
            refine pure_ (i := 22) (N := some 33) (v := ?_) (a' := ?_) #[true, true, true, true, true, true, true, true, true, true, true, true, true, true, true, true, true, true, true, false, true, false, true, false, false, false, false, false, false, false, false] rfl rfl (any_of HT_.out (by kernel_rfl)) (fun _ _ _ h => h) (Or.inl ⟨by rfl, ?_⟩) ?_ ?_
            rotate_left
            · intro w'
              go_simp
              with_reducible rfl
            rotate_left
            · exact AP_
            refine one_ (i := 19) (N := some 30) #[true, true, true, true, true, true, true, true, true, true, true, true, true, true, true, true, true, true, true, true, true, false, true, false, false, false, false, false, false, false, false] rfl rfl (one_of HT_.out (by kernel_rfl)) (by decide) (fun K hK => ?_)
            refine goes_ Tryd.func31 (by kernel_rfl) rfl #[] (by rfl) rfl rfl MP_ ?_
            with_reducible refine (itv_All.calls  t422 t423 _ A17.out).mono ?_
            rintro e w29 ⟨rfl, hb⟩
            refine ⟨_, rfl, ?_⟩
            have n0_ := Aside0.mk (blk_below (g := gb414) (o := .cells #[.int .i64 a0_0, .int .i64 a0_1] 23 (0, 0)) (bk_ BK414.out) hb)
            have n1_ := Aside0.mk (blk_below (g := gb415) (o := .cells #[.int .i64 a1_0, .int .i64 a1_1] 23 (0, 0)) (bk_ BK415.out) hb)
            have n2_ := Aside0.mk (below_step HB_ hb)
            clear BK414
            clear BK415
            clear HB
            have BK414 := n0_
            have BK415 := n1_
            have HB := n2_
            clear n0_ n1_ n2_
            (try clear hb)
            (try clear hb2)
            (try clear hk)
            (try clear hi)
            refine hK.out _ _ ⟨(blk_cell BK414.out 0).trans rfl, (blk_cell BK414.out 1).trans rfl, (blk_cell BK415.out 0).trans rfl, (blk_cell BK415.out 1).trans rfl⟩ (fun hHeld => ?_)
            clear hK K
            refine norm_ (a' := ?_) ?_ ?_
            rotate_left
            · show Act.put _ (some 30) _ = _
              simp only [Act.put, List.setIfInBounds_toArray, List.set_cons_zero, List.set_cons_succ, i64_w, i32_w]
              rfl
            refine one_ (i := 21) (N := some 32) #[true, true, true, true, true, true, true, true, true, true, true, true, true, true, true, true, true, true, true, true, true, true, true, false, false, false, false, false, false, false, false] rfl rfl (one_of HT_.out (by kernel_rfl)) (by decide) (fun K hK => ?_)
            refine goes_ Tryd.func14 (by kernel_rfl) rfl #[.agg #[.int .i64 t422, .int .i64 t423], .int .i64 a3] (by rfl) rfl rfl MP_ ?_
            with_reducible refine (itv_Has.calls t422 t423 a3 t424 _ A18.out).mono ?_
            rintro e w30 ⟨rfl, hb⟩
            refine ⟨_, rfl, ?_⟩
            have n0_ := Aside0.mk (blk_below (g := gb414) (o := .cells #[.int .i64 a0_0, .int .i64 a0_1] 23 (0, 0)) (bk_ BK414.out) hb)
            have n1_ := Aside0.mk (blk_below (g := gb415) (o := .cells #[.int .i64 a1_0, .int .i64 a1_1] 23 (0, 0)) (bk_ BK415.out) hb)
            have n2_ := Aside0.mk (below_step HB_ hb)
            clear BK414
            clear BK415
            clear HB
            have BK414 := n0_
            have BK415 := n1_
            have HB := n2_
            clear n0_ n1_ n2_
            (try clear hb)
            (try clear hb2)
            (try clear hk)
            (try clear hi)
            refine hK.out _ _ ⟨(blk_cell BK414.out 0).trans rfl, (blk_cell BK414.out 1).trans rfl, (blk_cell BK415.out 0).trans rfl, (blk_cell BK415.out 1).trans rfl⟩ (fun hHeld => ?_)
            clear hK K
            refine norm_ (a' := ?_) ?_ ?_
            rotate_left
            · show Act.put _ (some 32) _ = _
              simp only [Act.put, List.setIfInBounds_toArray, List.set_cons_zero, List.set_cons_succ, i64_w, i32_w]
              rfl
            refine one_ (i := 23) (N := some 34) #[true, true, true, true, true, true, true, true, true, true, true, true, true, true, true, true, true, true, true, true, true, true, true, true, false, false, false, false, false, false, false] rfl rfl (one_of HT_.out (by kernel_rfl)) (by decide) (fun K hK => ?_)
            refine goes_ Tryd.func32 (by kernel_rfl) rfl #[.int .i64 a3] (by rfl) rfl rfl MP_ ?_
            with_reducible refine (warrantorref06_Is.calls a3 t425 _ A19.out).mono ?_
            rintro e w' ⟨rfl, ⟨nd, rfl⟩⟩
            refine ⟨_, rfl, ?_⟩
            refine hK.out _ _ ⟨(blk_cell BK414.out 0).trans rfl, (blk_cell BK414.out 1).trans rfl, (blk_cell BK415.out 0).trans rfl, (blk_cell BK415.out 1).trans rfl⟩ (fun hHeld => ?_)
            clear hK K
            refine norm_ (a' := ?_) ?_ ?_
            rotate_left
            · show Act.put _ (some 34) _ = _
              simp only [Act.put, List.setIfInBounds_toArray, List.set_cons_zero, List.set_cons_succ, i64_w, i32_w]
              rfl
            refine pure_ (i := 24) (N := some 35) (v := ?_) (a' := ?_) #[true, true, true, true, true, true, true, true, true, true, true, true, true, true, true, true, true, true, true, true, true, true, true, true, true, false, false, false, false, false, false] rfl rfl (any_of HT_.out (by kernel_rfl)) (fun _ _ _ h => h) (Or.inl ⟨by rfl, ?_⟩) ?_ ?_
            rotate_left
            · intro w'
              go_simp
              with_reducible rfl
            rotate_left
            · exact AP_
            refine pure_ (i := 25) (N := some 36) (v := ?_) (a' := ?_) #[true, true, true, true, true, true, true, true, true, true, true, true, true, true, true, true, true, true, true, true, true, true, true, true, true, true, false, false, false, false, false] rfl rfl (any_of HT_.out (by kernel_rfl)) (fun _ _ _ h => h) (Or.inl ⟨by rfl, ?_⟩) ?_ ?_
            rotate_left
            · intro w'
              go_simp
              with_reducible rfl
            rotate_left
            · exact AP_
            refine pure_ (i := 26) (N := some 37) (v := ?_) (a' := ?_) #[true, true, true, true, true, true, true, true, true, true, true, true, true, true, true, true, true, true, true, true, true, true, true, true, true, true, true, false, false, false, false] rfl rfl (any_of HT_.out (by kernel_rfl)) (fun _ _ _ h => h) (Or.inl ⟨by rfl, ?_⟩) ?_ ?_
            rotate_left
            · intro w'
              go_simp
              with_reducible rfl
            rotate_left
            · exact AP_
            refine pure_ (i := 28) (N := some 39) (v := ?_) (a' := ?_) #[true, true, true, true, true, true, true, true, true, true, true, true, true, true, true, true, true, true, true, true, true, true, true, true, true, true, true, false, true, false, false] rfl rfl (any_of HT_.out (by kernel_rfl)) (fun _ _ _ h => h) (Or.inl ⟨by rfl, ?_⟩) ?_ ?_
            rotate_left
            · intro w'
              go_simp
              with_reducible rfl
            rotate_left
            · exact AP_
            refine one_ (i := 27) (N := some 38) #[true, true, true, true, true, true, true, true, true, true, true, true, true, true, true, true, true, true, true, true, true, true, true, true, true, true, true, true, true, false, false] rfl rfl (one_of HT_.out (by kernel_rfl)) (by decide) (fun K hK => ?_)
            refine goes_ Tryd.func33 (by kernel_rfl) rfl #[] (by rfl) rfl rfl MP_ ?_
            with_reducible refine (itv_None.calls  t426 t427 _ A21.out).mono ?_
            rintro e w31 ⟨rfl, hb⟩
            refine ⟨_, rfl, ?_⟩
            have n0_ := Aside0.mk (blk_below (g := gb414) (o := .cells #[.int .i64 a0_0, .int .i64 a0_1] 23 (0, 0)) (bk_ BK414.out) hb)
            have n1_ := Aside0.mk (blk_below (g := gb415) (o := .cells #[.int .i64 a1_0, .int .i64 a1_1] 23 (0, 0)) (bk_ BK415.out) hb)
            have n2_ := Aside0.mk (below_step HB_ hb)
            clear BK414
            clear BK415
            clear HB
            have BK414 := n0_
            have BK415 := n1_
            have HB := n2_
            clear n0_ n1_ n2_
            (try clear hb)
            (try clear hb2)
            (try clear hk)
            (try clear hi)
            refine hK.out _ _ ⟨(blk_cell BK414.out 0).trans rfl, (blk_cell BK414.out 1).trans rfl, (blk_cell BK415.out 0).trans rfl, (blk_cell BK415.out 1).trans rfl⟩ (fun hHeld => ?_)
            clear hK K
            refine norm_ (a' := ?_) ?_ ?_
            rotate_left
            · show Act.put _ (some 38) _ = _
              simp only [Act.put, List.setIfInBounds_toArray, List.set_cons_zero, List.set_cons_succ, i64_w, i32_w]
              rfl
            refine one_ (i := 29) (N := some 40) #[true, true, true, true, true, true, true, true, true, true, true, true, true, true, true, true, true, true, true, true, true, true, true, true, true, true, true, true, true, true, false] rfl rfl (one_of HT_.out (by kernel_rfl)) (by decide) (fun K hK => ?_)
            refine goes_ Tryd.func14 (by kernel_rfl) rfl #[.agg #[.int .i64 t426, .int .i64 t427], .int .i64 a3] (by rfl) rfl rfl MP_ ?_
            with_reducible refine (itv_Has.calls t426 t427 a3 t428 _ A22.out).mono ?_
            rintro e w32 ⟨rfl, hb⟩
            refine ⟨_, rfl, ?_⟩
            have n0_ := Aside0.mk (blk_below (g := gb414) (o := .cells #[.int .i64 a0_0, .int .i64 a0_1] 23 (0, 0)) (bk_ BK414.out) hb)
            have n1_ := Aside0.mk (blk_below (g := gb415) (o := .cells #[.int .i64 a1_0, .int .i64 a1_1] 23 (0, 0)) (bk_ BK415.out) hb)
            have n2_ := Aside0.mk (below_step HB_ hb)
            clear BK414
            clear BK415
            clear HB
            have BK414 := n0_
            have BK415 := n1_
            have HB := n2_
            clear n0_ n1_ n2_
            (try clear hb)
            (try clear hb2)
            (try clear hk)
            (try clear hi)
            refine hK.out _ _ ⟨(blk_cell BK414.out 0).trans rfl, (blk_cell BK414.out 1).trans rfl, (blk_cell BK415.out 0).trans rfl, (blk_cell BK415.out 1).trans rfl⟩ (fun hHeld => ?_)
            clear hK K
            refine norm_ (a' := ?_) ?_ ?_
            rotate_left
            · show Act.put _ (some 40) _ = _
              simp only [Act.put, List.setIfInBounds_toArray, List.set_cons_zero, List.set_cons_succ, i64_w, i32_w]
              rfl
            refine pure_ (i := 30) (N := some 41) (v := ?_) (a' := ?_) #[true, true, true, true, true, true, true, true, true, true, true, true, true, true, true, true, true, true, true, true, true, true, true, true, true, true, true, true, true, true, true] rfl rfl (any_of HT_.out (by kernel_rfl)) (fun _ _ _ h => h) (Or.inl ⟨by rfl, ?_⟩) ?_ ?_
            rotate_left
            · intro w'
              go_simp
              with_reducible rfl
            rotate_left
            · exact AP_
            refine done_ (done_of HT_.out (by kernel_rfl)) ?_
            try go_wp2
            go_meet
            case rel => exact ⟨_, (t428), (by first | rfl | (simp; done) | (simp [*]; done)), H', ⟨by first | omega | exact Nat.le_refl _⟩, ⟨by (with_reducible repeat (first | refine blk_drewN ?_ _ | refine blk_drew ?_ | refine blk_alloc ?_ _)); exact BK414.out⟩, ⟨by (with_reducible repeat (first | refine blk_drewN ?_ _ | refine blk_drew ?_ | refine blk_alloc ?_ _)); exact BK415.out⟩, ⟨by repeat (first | (with_reducible first | exact HB.out | apply below_alloc | apply pw_below_drewN | apply below_drew1 | refine below_set ?_ GE414.out | refine below_set ?_ GE415.out) | exact HB.out)⟩⟩
      · replace c14 := Bool.eq_false_iff.mpr c14
        subst c14
        have H1 : (if (t419 != false) = true then (none) else ((itv_All.f).bind fun bt429 => ((itv_Has.f bt429.1 bt429.2 a3).bind fun t431 => ((warrantorref06_Is.f a3).bind fun t432 => (if (t431 != t432) = true then (none) else ((itv_None.f).bind fun bt433 => ((itv_Has.f bt433.1 bt433.2 a3).bind fun t435 => (warrantorlaw07_ItvSets.j0 k a2 a3 a4 t435 a0_0 a0_1 a1_0 a1_1)))))))) = some r := by rw [if_neg (show ¬ (false = true) by decide)] at H; exact H
        clear H
        have H := H1
        clear H1
        by_cases c33 : (t419 != false) = true
        · rw [if_pos c33] at H
          exact absurd H (by simp)
        · rw [if_neg c33] at H
          have c33b0 : (t419 != false) = false := by simpa using c33
          (try (have c33b1 : decide (t419 = false) = true := by simpa using c33))
          (try (have c33b2 : (t419 == false) = true := by simpa using c33))
          clear c33
          replace H := Option.bind_eq_some_iff.mp H
          obtain ⟨⟨t429, t430⟩, A340, H⟩ := H
          replace H : ((itv_Has.f t429 t430 a3).bind fun t431 => ((warrantorref06_Is.f a3).bind fun t432 => (if (t431 != t432) = true then (none) else ((itv_None.f).bind fun bt433 => ((itv_Has.f bt433.1 bt433.2 a3).bind fun t435 => (warrantorlaw07_ItvSets.j0 k a2 a3 a4 t435 a0_0 a0_1 a1_0 a1_1)))))) = some r := H
          have A34 := Aside0.mk A340
          clear A340
          replace H := Option.bind_eq_some_iff.mp H
          obtain ⟨t431, A350, H⟩ := H
          replace H : ((warrantorref06_Is.f a3).bind fun t432 => (if (t431 != t432) = true then (none) else ((itv_None.f).bind fun bt433 => ((itv_Has.f bt433.1 bt433.2 a3).bind fun t435 => (warrantorlaw07_ItvSets.j0 k a2 a3 a4 t435 a0_0 a0_1 a1_0 a1_1))))) = some r := H
          have A35 := Aside0.mk A350
          clear A350
          replace H := Option.bind_eq_some_iff.mp H
          obtain ⟨t432, A360, H⟩ := H
          replace H : (if (t431 != t432) = true then (none) else ((itv_None.f).bind fun bt433 => ((itv_Has.f bt433.1 bt433.2 a3).bind fun t435 => (warrantorlaw07_ItvSets.j0 k a2 a3 a4 t435 a0_0 a0_1 a1_0 a1_1)))) = some r := H
          have A36 := Aside0.mk A360
          clear A360
          by_cases c37 : (t431 != t432) = true
          · rw [if_pos c37] at H
            exact absurd H (by simp)
          · rw [if_neg c37] at H
            have c37b0 : (t431 != t432) = false := by simpa using c37
            (try (have c37b1 : decide (t431 = t432) = true := by simpa using c37))
            (try (have c37b2 : (t431 == t432) = true := by simpa using c37))
            clear c37
            replace H := Option.bind_eq_some_iff.mp H
            obtain ⟨⟨t433, t434⟩, A380, H⟩ := H
            replace H : ((itv_Has.f t433 t434 a3).bind fun t435 => (warrantorlaw07_ItvSets.j0 k a2 a3 a4 t435 a0_0 a0_1 a1_0 a1_1)) = some r := H
            have A38 := Aside0.mk A380
            clear A380
            replace H := Option.bind_eq_some_iff.mp H
            obtain ⟨t435, A390, H⟩ := H
            replace H : (warrantorlaw07_ItvSets.j0 k a2 a3 a4 t435 a0_0 a0_1 a1_0 a1_1) = some r := H
            have A39 := Aside0.mk A390
            clear A390
            have H' := Aside0.mk H
            clear H
            try go_wp2
            first | (obtain ⟨w8, hq_⟩ : ∃ x, x = w8.drewN nd := ⟨_, rfl⟩; rw [← hq_]; have q0_ := Aside0.mk (blk_drewN BK414.out nd); rw [← hq_] at q0_; have q1_ := Aside0.mk (blk_drewN BK415.out nd); rw [← hq_] at q1_; have q2_ := Aside0.mk (pw_below_drewN HB.out nd); rw [← hq_] at q2_; clear BK414; clear BK415; clear HB; have BK414 := q0_; have BK415 := q1_; have HB := q2_; clear hq_ q0_ q1_ q2_) | skip
            have n0_ := Aside0.mk (blk_drew BK414.out)
            have n1_ := Aside0.mk (blk_drew BK415.out)
            have n2_ := Aside0.mk (below_drew1 HB.out)
            clear BK414
            clear BK415
            clear HB
            have BK414 := n0_
            have BK415 := n1_
            have HB := n2_
            clear n0_ n1_ n2_
            refine start_ (n := 31) (S := fun w' => w'.cell? ⟨gb414, 0, none⟩ = some (.int .i64 a0_0) ∧ w'.cell? ⟨gb414, 1, none⟩ = some (.int .i64 a0_1) ∧ w'.cell? ⟨gb415, 0, none⟩ = some (.int .i64 a1_0) ∧ w'.cell? ⟨gb415, 1, none⟩ = some (.int .i64 a1_1)) (ds := []) #[false, false, false, false, false, false, false, false, false, false, false, false, false, false, false, false, false, false, false, false, false, false, false, false, false, false, false, false, false, false, false] (by kernel_rfl) rfl rfl ⟨(blk_cell BK414.out 0).trans rfl, (blk_cell BK414.out 1).trans rfl, (blk_cell BK415.out 0).trans rfl, (blk_cell BK415.out 1).trans rfl⟩ (fun hHeld => ?_); refine with_tabW warrantorlaw07_ItvSets.tab1 warrantorlaw07_ItvSets.bits1 (fun HT_ HW_ => ?_)
            generalize w8.drew = w40 at BK414 BK415 HB hHeld ⊢
            refine one_ (i := 0) (N := some 11) #[true, false, false, false, false, false, false, false, false, false, false, false, false, false, false, false, false, false, false, false, false, false, false, false, false, false, false, false, false, false, false] rfl rfl (one_of HT_.out (by kernel_rfl)) (by decide) (fun K hK => ?_)
            refine goes_ Tryd.func8 (by kernel_rfl) rfl #[] (by rfl) rfl rfl MP_ ?_
            with_reducible refine (warrantorlaw07_lives.calls k  true _ (tb_below HTB.out HB_) A9.out).mono ?_
            rintro e w41 ⟨rfl, hb⟩
            refine ⟨_, rfl, ?_⟩
            have n0_ := Aside0.mk (blk_below (g := gb414) (o := .cells #[.int .i64 a0_0, .int .i64 a0_1] 23 (0, 0)) (bk_ BK414.out) hb)
            have n1_ := Aside0.mk (blk_below (g := gb415) (o := .cells #[.int .i64 a1_0, .int .i64 a1_1] 23 (0, 0)) (bk_ BK415.out) hb)
            have n2_ := Aside0.mk (below_step HB_ hb)
            clear BK414
            clear BK415
            clear HB
            have BK414 := n0_
            have BK415 := n1_
            have HB := n2_
            clear n0_ n1_ n2_
            (try clear hb)
            (try clear hb2)
            (try clear hk)
            (try clear hi)
            refine hK.out _ _ ⟨(blk_cell BK414.out 0).trans rfl, (blk_cell BK414.out 1).trans rfl, (blk_cell BK415.out 0).trans rfl, (blk_cell BK415.out 1).trans rfl⟩ (fun hHeld => ?_)
            clear hK K
            refine norm_ (a' := ?_) ?_ ?_
            rotate_left
            · show Act.put _ (some 11) _ = _
              simp only [Act.put, List.setIfInBounds_toArray, List.set_cons_zero, List.set_cons_succ, i64_w, i32_w]
              rfl
            refine pure_ (i := 1) (N := some 12) (v := ?_) (a' := ?_) #[true, true, false, false, false, false, false, false, false, false, false, false, false, false, false, false, false, false, false, false, false, false, false, false, false, false, false, false, false, false, false] rfl rfl (any_of HT_.out (by kernel_rfl)) (fun _ _ _ h => h) (Or.inl ⟨by rfl, ?_⟩) ?_ ?_
            rotate_left
            · intro w'
              go_simp
              with_reducible rfl
            rotate_left
            · exact AP_
            refine pure_ (i := 2) (N := some 13) (v := ?_) (a' := ?_) #[true, true, true, false, false, false, false, false, false, false, false, false, false, false, false, false, false, false, false, false, false, false, false, false, false, false, false, false, false, false, false] rfl rfl (any_of HT_.out (by kernel_rfl)) (fun _ _ _ h => h) (Or.inl ⟨by rfl, ?_⟩) ?_ ?_
            rotate_left
            · intro w'
              go_simp
              with_reducible rfl
            rotate_left
            · exact AP_
            refine pure_ (i := 6) (N := some 17) (v := ?_) (a' := ?_) #[true, true, true, false, false, false, true, false, false, false, false, false, false, false, false, false, false, false, false, false, false, false, false, false, false, false, false, false, false, false, false] rfl rfl (any_of HT_.out (by kernel_rfl)) (fun _ _ _ h => h) (Or.inl ⟨by rfl, ?_⟩) ?_ ?_
            rotate_left
            · intro w'
              go_simp
              with_reducible rfl
            rotate_left
            · exact AP_
            refine pure_ (i := 9) (N := some 20) (v := ?_) (a' := ?_) #[true, true, true, false, false, false, true, false, false, true, false, false, false, false, false, false, false, false, false, false, false, false, false, false, false, false, false, false, false, false, false] rfl rfl (any_of HT_.out (by kernel_rfl)) (fun _ _ _ h => h) (Or.inl ⟨by rfl, ?_⟩) ?_ ?_
            rotate_left
            · intro w'
              go_simp
              with_reducible rfl
            rotate_left
            · exact AP_
            refine take_ (i := 3) (N := some 14) (v := ?_) (a' := ?_) #[true, true, true, true, false, false, true, false, false, true, false, false, false, false, false, false, false, false, false, false, false, false, false, false, false, false, false, false, false, false, false] rfl rfl (take_ofW HT_.out HW_.out (by kernel_rfl)) (fun _ _ _ h => h) (Or.inl ⟨by rfl, ?_⟩) hHeld ?_ ?_
            rotate_left
            · rintro w' ⟨s0, s1, s2, s3⟩
              go_simp
              with_reducible rfl
            rotate_left
            · exact AP_
            refine take_ (i := 4) (N := some 15) (v := ?_) (a' := ?_) #[true, true, true, true, true, false, true, false, false, true, false, false, false, false, false, false, false, false, false, false, false, false, false, false, false, false, false, false, false, false, false] rfl rfl (take_ofW HT_.out HW_.out (by kernel_rfl)) (fun _ _ _ h => h) (Or.inl ⟨by rfl, ?_⟩) hHeld ?_ ?_
            rotate_left
            · rintro w' ⟨s0, s1, s2, s3⟩
              go_simp
              with_reducible rfl
            rotate_left
            · exact AP_
            refine take_ (i := 8) (N := some 19) (v := ?_) (a' := ?_) #[true, true, true, true, true, false, true, false, true, true, false, false, false, false, false, false, false, false, false, false, false, false, false, false, false, false, false, false, false, false, false] rfl rfl (take_ofW HT_.out HW_.out (by kernel_rfl)) (fun _ _ _ h => h) (Or.inl ⟨by rfl, ?_⟩) hHeld ?_ ?_
            rotate_left
            · rintro w' ⟨s0, s1, s2, s3⟩
              go_simp
              with_reducible rfl
            rotate_left
            · exact AP_
            refine one_ (i := 5) (N := some 16) #[true, true, true, true, true, true, true, false, true, true, false, false, false, false, false, false, false, false, false, false, false, false, false, false, false, false, false, false, false, false, false] rfl rfl (one_of HT_.out (by kernel_rfl)) (by decide) (fun K hK => ?_)
            refine goes_ Tryd.func21 (by kernel_rfl) rfl #[.agg #[.int .i64 a0_0, .int .i64 a0_1], .agg #[.int .i64 a1_0, .int .i64 a1_1]] (by rfl) rfl rfl MP_ ?_
            with_reducible refine (itv_Meet.calls a0_0 a0_1 a1_0 a1_1 t417 t418 _ A11.out).mono ?_
            rintro e w42 ⟨rfl, hb⟩
            refine ⟨_, rfl, ?_⟩
            have n0_ := Aside0.mk (blk_below (g := gb414) (o := .cells #[.int .i64 a0_0, .int .i64 a0_1] 23 (0, 0)) (bk_ BK414.out) hb)
            have n1_ := Aside0.mk (blk_below (g := gb415) (o := .cells #[.int .i64 a1_0, .int .i64 a1_1] 23 (0, 0)) (bk_ BK415.out) hb)
            have n2_ := Aside0.mk (below_step HB_ hb)
            clear BK414
            clear BK415
            clear HB
            have BK414 := n0_
            have BK415 := n1_
            have HB := n2_
            clear n0_ n1_ n2_
            (try clear hb)
            (try clear hb2)
            (try clear hk)
            (try clear hi)
            refine hK.out _ _ ⟨(blk_cell BK414.out 0).trans rfl, (blk_cell BK414.out 1).trans rfl, (blk_cell BK415.out 0).trans rfl, (blk_cell BK415.out 1).trans rfl⟩ (fun hHeld => ?_)
            clear hK K
            refine norm_ (a' := ?_) ?_ ?_
            rotate_left
            · show Act.put _ (some 16) _ = _
              simp only [Act.put, List.setIfInBounds_toArray, List.set_cons_zero, List.set_cons_succ, i64_w, i32_w]
              rfl
            refine one_ (i := 7) (N := some 18) #[true, true, true, true, true, true, true, true, true, true, false, false, false, false, false, false, false, false, false, false, false, false, false, false, false, false, false, false, false, false, false] rfl rfl (one_of HT_.out (by kernel_rfl)) (by decide) (fun K hK => ?_)
            refine goes_ Tryd.func14 (by kernel_rfl) rfl #[.agg #[.int .i64 t417, .int .i64 t418], .int .i64 a3] (by rfl) rfl rfl MP_ ?_
            with_reducible refine (itv_Has.calls t417 t418 a3 t419 _ A12.out).mono ?_
            rintro e w43 ⟨rfl, hb⟩
            refine ⟨_, rfl, ?_⟩
            have n0_ := Aside0.mk (blk_below (g := gb414) (o := .cells #[.int .i64 a0_0, .int .i64 a0_1] 23 (0, 0)) (bk_ BK414.out) hb)
            have n1_ := Aside0.mk (blk_below (g := gb415) (o := .cells #[.int .i64 a1_0, .int .i64 a1_1] 23 (0, 0)) (bk_ BK415.out) hb)
            have n2_ := Aside0.mk (below_step HB_ hb)
            clear BK414
            clear BK415
            clear HB
            have BK414 := n0_
            have BK415 := n1_
            have HB := n2_
            clear n0_ n1_ n2_
            (try clear hb)
            (try clear hb2)
            (try clear hk)
            (try clear hi)
            refine hK.out _ _ ⟨(blk_cell BK414.out 0).trans rfl, (blk_cell BK414.out 1).trans rfl, (blk_cell BK415.out 0).trans rfl, (blk_cell BK415.out 1).trans rfl⟩ (fun hHeld => ?_)
            clear hK K
            refine norm_ (a' := ?_) ?_ ?_
            rotate_left
            · show Act.put _ (some 18) _ = _
              simp only [Act.put, List.setIfInBounds_toArray, List.set_cons_zero, List.set_cons_succ, i64_w, i32_w]
              rfl
            refine one_ (i := 10) (N := some 21) #[true, true, true, true, true, true, true, true, true, true, true, false, false, false, false, false, false, false, false, false, false, false, false, false, false, false, false, false, false, false, false] rfl rfl (one_of HT_.out (by kernel_rfl)) (by decide) (fun K hK => ?_)
            refine goes_ Tryd.func14 (by kernel_rfl) rfl #[.agg #[.int .i64 a0_0, .int .i64 a0_1], .int .i64 a3] (by rfl) rfl rfl MP_ ?_
            with_reducible refine (itv_Has.calls a0_0 a0_1 a3 false _ A13.out).mono ?_
            rintro e w44 ⟨rfl, hb⟩
            refine ⟨_, rfl, ?_⟩
            have n0_ := Aside0.mk (blk_below (g := gb414) (o := .cells #[.int .i64 a0_0, .int .i64 a0_1] 23 (0, 0)) (bk_ BK414.out) hb)
            have n1_ := Aside0.mk (blk_below (g := gb415) (o := .cells #[.int .i64 a1_0, .int .i64 a1_1] 23 (0, 0)) (bk_ BK415.out) hb)
            have n2_ := Aside0.mk (below_step HB_ hb)
            clear BK414
            clear BK415
            clear HB
            have BK414 := n0_
            have BK415 := n1_
            have HB := n2_
            clear n0_ n1_ n2_
            (try clear hb)
            (try clear hb2)
            (try clear hk)
            (try clear hi)
            refine hK.out _ _ ⟨(blk_cell BK414.out 0).trans rfl, (blk_cell BK414.out 1).trans rfl, (blk_cell BK415.out 0).trans rfl, (blk_cell BK415.out 1).trans rfl⟩ (fun hHeld => ?_)
            clear hK K
            refine norm_ (a' := ?_) ?_ ?_
            rotate_left
            · show Act.put _ (some 21) _ = _
              simp only [Act.put, List.setIfInBounds_toArray, List.set_cons_zero, List.set_cons_succ, i64_w, i32_w]
              rfl
            refine pure_ (i := 11) (N := some 22) (v := ?_) (a' := ?_) #[true, true, true, true, true, true, true, true, true, true, true, true, false, false, false, false, false, false, false, false, false, false, false, false, false, false, false, false, false, false, false] rfl rfl (any_of HT_.out (by kernel_rfl)) (fun _ _ _ h => h) (Or.inl ⟨by rfl, ?_⟩) ?_ ?_
            rotate_left
            · intro w'
              go_simp
              with_reducible rfl
            rotate_left
            · exact AP_
            refine pure_ (i := 12) (N := some 23) (v := undef) (a' := ?_) #[true, true, true, true, true, true, true, true, true, true, true, true, true, false, false, false, false, false, false, false, false, false, false, false, false, false, false, false, false, false, false] rfl rfl (any_of HT_.out (by kernel_rfl)) (fun _ _ _ h => h) (Or.inr ⟨by rfl, rfl⟩) ?_ ?_
            rotate_left
            · exact AP_
            refine pure_ (i := 13) (N := some 24) (v := undef) (a' := ?_) #[true, true, true, true, true, true, true, true, true, true, true, true, true, true, false, false, false, false, false, false, false, false, false, false, false, false, false, false, false, false, false] rfl rfl (any_of HT_.out (by kernel_rfl)) (fun _ _ _ h => h) (Or.inr ⟨by rfl, rfl⟩) ?_ ?_
            rotate_left
            · exact AP_
            refine pure_ (i := 14) (N := some 25) (v := undef) (a' := ?_) #[true, true, true, true, true, true, true, true, true, true, true, true, true, true, true, false, false, false, false, false, false, false, false, false, false, false, false, false, false, false, false] rfl rfl (any_of HT_.out (by kernel_rfl)) (fun _ _ _ h => h) (Or.inr ⟨by rfl, rfl⟩) ?_ ?_
            rotate_left
            · exact AP_
            refine pure_ (i := 15) (N := some 26) (v := ?_) (a' := ?_) #[true, true, true, true, true, true, true, true, true, true, true, true, true, true, true, true, false, false, false, false, false, false, false, false, false, false, false, false, false, false, false] rfl rfl (any_of HT_.out (by kernel_rfl)) (fun _ _ _ h => h) (Or.inl ⟨by rfl, ?_⟩) ?_ ?_
            rotate_left
            · intro w'
              go_simp
              with_reducible rfl
            rotate_left
            · exact AP_
            refine pure_ (i := 16) (N := some 27) (v := ?_) (a' := ?_) #[true, true, true, true, true, true, true, true, true, true, true, true, true, true, true, true, true, false, false, false, false, false, false, false, false, false, false, false, false, false, false] rfl rfl (any_of HT_.out (by kernel_rfl)) (fun _ _ _ h => h) (Or.inl ⟨by rfl, ?_⟩) ?_ ?_
            rotate_left
            · intro w'
              go_simp
              with_reducible rfl
            rotate_left
            · exact AP_
            refine pure_ (i := 17) (N := some 28) (v := ?_) (a' := ?_) #[true, true, true, true, true, true, true, true, true, true, true, true, true, true, true, true, true, true, false, false, false, false, false, false, false, false, false, false, false, false, false] rfl rfl (any_of HT_.out (by kernel_rfl)) (fun _ _ _ h => h) (Or.inl ⟨by rfl, ?_⟩) ?_ ?_
            rotate_left
            · intro w'
              go_simp
              with_reducible rfl
            rotate_left
            · exact AP_
            refine pure_ (i := 18) (N := some 29) (v := ?_) (a' := ?_) #[true, true, true, true, true, true, true, true, true, true, true, true, true, true, true, true, true, true, true, false, false, false, false, false, false, false, false, false, false, false, false] rfl rfl (any_of HT_.out (by kernel_rfl)) (fun _ _ _ h => h) (Or.inl ⟨by rfl, ?_⟩) ?_ ?_
            rotate_left
            · intro w'
              go_simp
              with_reducible rfl
            rotate_left
            · exact AP_
            refine pure_ (i := 20) (N := some 31) (v := ?_) (a' := ?_) #[true, true, true, true, true, true, true, true, true, true, true, true, true, true, true, true, true, true, true, false, true, false, false, false, false, false, false, false, false, false, false] rfl rfl (any_of HT_.out (by kernel_rfl)) (fun _ _ _ h => h) (Or.inl ⟨by rfl, ?_⟩) ?_ ?_
            rotate_left
            · intro w'
              go_simp
              with_reducible rfl
            rotate_left
            · exact AP_
            refine pure_ (i := 22) (N := some 33) (v := ?_) (a' := ?_) #[true, true, true, true, true, true, true, true, true, true, true, true, true, true, true, true, true, true, true, false, true, false, true, false, false, false, false, false, false, false, false] rfl rfl (any_of HT_.out (by kernel_rfl)) (fun _ _ _ h => h) (Or.inl ⟨by rfl, ?_⟩) ?_ ?_
            rotate_left
            · intro w'
              go_simp
              with_reducible rfl
            rotate_left
            · exact AP_
            refine one_ (i := 19) (N := some 30) #[true, true, true, true, true, true, true, true, true, true, true, true, true, true, true, true, true, true, true, true, true, false, true, false, false, false, false, false, false, false, false] rfl rfl (one_of HT_.out (by kernel_rfl)) (by decide) (fun K hK => ?_)
            refine goes_ Tryd.func31 (by kernel_rfl) rfl #[] (by rfl) rfl rfl MP_ ?_
            with_reducible refine (itv_All.calls  t429 t430 _ A34.out).mono ?_
            rintro e w45 ⟨rfl, hb⟩
            refine ⟨_, rfl, ?_⟩
            have n0_ := Aside0.mk (blk_below (g := gb414) (o := .cells #[.int .i64 a0_0, .int .i64 a0_1] 23 (0, 0)) (bk_ BK414.out) hb)
            have n1_ := Aside0.mk (blk_below (g := gb415) (o := .cells #[.int .i64 a1_0, .int .i64 a1_1] 23 (0, 0)) (bk_ BK415.out) hb)
            have n2_ := Aside0.mk (below_step HB_ hb)
            clear BK414
            clear BK415
            clear HB
            have BK414 := n0_
            have BK415 := n1_
            have HB := n2_
            clear n0_ n1_ n2_
            (try clear hb)
            (try clear hb2)
            (try clear hk)
            (try clear hi)
            refine hK.out _ _ ⟨(blk_cell BK414.out 0).trans rfl, (blk_cell BK414.out 1).trans rfl, (blk_cell BK415.out 0).trans rfl, (blk_cell BK415.out 1).trans rfl⟩ (fun hHeld => ?_)
            clear hK K
            refine norm_ (a' := ?_) ?_ ?_
            rotate_left
            · show Act.put _ (some 30) _ = _
              simp only [Act.put, List.setIfInBounds_toArray, List.set_cons_zero, List.set_cons_succ, i64_w, i32_w]
              rfl
            refine one_ (i := 21) (N := some 32) #[true, true, true, true, true, true, true, true, true, true, true, true, true, true, true, true, true, true, true, true, true, true, true, false, false, false, false, false, false, false, false] rfl rfl (one_of HT_.out (by kernel_rfl)) (by decide) (fun K hK => ?_)
            refine goes_ Tryd.func14 (by kernel_rfl) rfl #[.agg #[.int .i64 t429, .int .i64 t430], .int .i64 a3] (by rfl) rfl rfl MP_ ?_
            with_reducible refine (itv_Has.calls t429 t430 a3 t431 _ A35.out).mono ?_
            rintro e w46 ⟨rfl, hb⟩
            refine ⟨_, rfl, ?_⟩
            have n0_ := Aside0.mk (blk_below (g := gb414) (o := .cells #[.int .i64 a0_0, .int .i64 a0_1] 23 (0, 0)) (bk_ BK414.out) hb)
            have n1_ := Aside0.mk (blk_below (g := gb415) (o := .cells #[.int .i64 a1_0, .int .i64 a1_1] 23 (0, 0)) (bk_ BK415.out) hb)
            have n2_ := Aside0.mk (below_step HB_ hb)
            clear BK414
            clear BK415
            clear HB
            have BK414 := n0_
            have BK415 := n1_
            have HB := n2_
            clear n0_ n1_ n2_
            (try clear hb)
            (try clear hb2)
            (try clear hk)
            (try clear hi)
            refine hK.out _ _ ⟨(blk_cell BK414.out 0).trans rfl, (blk_cell BK414.out 1).trans rfl, (blk_cell BK415.out 0).trans rfl, (blk_cell BK415.out 1).trans rfl⟩ (fun hHeld => ?_)
            clear hK K
            refine norm_ (a' := ?_) ?_ ?_
            rotate_left
            · show Act.put _ (some 32) _ = _
              simp only [Act.put, List.setIfInBounds_toArray, List.set_cons_zero, List.set_cons_succ, i64_w, i32_w]
              rfl
            refine one_ (i := 23) (N := some 34) #[true, true, true, true, true, true, true, true, true, true, true, true, true, true, true, true, true, true, true, true, true, true, true, true, false, false, false, false, false, false, false] rfl rfl (one_of HT_.out (by kernel_rfl)) (by decide) (fun K hK => ?_)
            refine goes_ Tryd.func32 (by kernel_rfl) rfl #[.int .i64 a3] (by rfl) rfl rfl MP_ ?_
            with_reducible refine (warrantorref06_Is.calls a3 t432 _ A36.out).mono ?_
            rintro e w' ⟨rfl, ⟨nd, rfl⟩⟩
            refine ⟨_, rfl, ?_⟩
            refine hK.out _ _ ⟨(blk_cell BK414.out 0).trans rfl, (blk_cell BK414.out 1).trans rfl, (blk_cell BK415.out 0).trans rfl, (blk_cell BK415.out 1).trans rfl⟩ (fun hHeld => ?_)
            clear hK K
            refine norm_ (a' := ?_) ?_ ?_
            rotate_left
            · show Act.put _ (some 34) _ = _
              simp only [Act.put, List.setIfInBounds_toArray, List.set_cons_zero, List.set_cons_succ, i64_w, i32_w]
              rfl
            refine pure_ (i := 24) (N := some 35) (v := ?_) (a' := ?_) #[true, true, true, true, true, true, true, true, true, true, true, true, true, true, true, true, true, true, true, true, true, true, true, true, true, false, false, false, false, false, false] rfl rfl (any_of HT_.out (by kernel_rfl)) (fun _ _ _ h => h) (Or.inl ⟨by rfl, ?_⟩) ?_ ?_
            rotate_left
            · intro w'
              go_simp
              with_reducible rfl
            rotate_left
            · exact AP_
            refine pure_ (i := 25) (N := some 36) (v := ?_) (a' := ?_) #[true, true, true, true, true, true, true, true, true, true, true, true, true, true, true, true, true, true, true, true, true, true, true, true, true, true, false, false, false, false, false] rfl rfl (any_of HT_.out (by kernel_rfl)) (fun _ _ _ h => h) (Or.inl ⟨by rfl, ?_⟩) ?_ ?_
            rotate_left
            · intro w'
              go_simp
              with_reducible rfl
            rotate_left
            · exact AP_
            refine pure_ (i := 26) (N := some 37) (v := ?_) (a' := ?_) #[true, true, true, true, true, true, true, true, true, true, true, true, true, true, true, true, true, true, true, true, true, true, true, true, true, true, true, false, false, false, false] rfl rfl (any_of HT_.out (by kernel_rfl)) (fun _ _ _ h => h) (Or.inl ⟨by rfl, ?_⟩) ?_ ?_
            rotate_left
            · intro w'
              go_simp
              with_reducible rfl
            rotate_left
            · exact AP_
            refine pure_ (i := 28) (N := some 39) (v := ?_) (a' := ?_) #[true, true, true, true, true, true, true, true, true, true, true, true, true, true, true, true, true, true, true, true, true, true, true, true, true, true, true, false, true, false, false] rfl rfl (any_of HT_.out (by kernel_rfl)) (fun _ _ _ h => h) (Or.inl ⟨by rfl, ?_⟩) ?_ ?_
            rotate_left
            · intro w'
              go_simp
              with_reducible rfl
            rotate_left
            · exact AP_
            refine one_ (i := 27) (N := some 38) #[true, true, true, true, true, true, true, true, true, true, true, true, true, true, true, true, true, true, true, true, true, true, true, true, true, true, true, true, true, false, false] rfl rfl (one_of HT_.out (by kernel_rfl)) (by decide) (fun K hK => ?_)
            refine goes_ Tryd.func33 (by kernel_rfl) rfl #[] (by rfl) rfl rfl MP_ ?_
            with_reducible refine (itv_None.calls  t433 t434 _ A38.out).mono ?_
            rintro e w47 ⟨rfl, hb⟩
            refine ⟨_, rfl, ?_⟩
            have n0_ := Aside0.mk (blk_below (g := gb414) (o := .cells #[.int .i64 a0_0, .int .i64 a0_1] 23 (0, 0)) (bk_ BK414.out) hb)
            have n1_ := Aside0.mk (blk_below (g := gb415) (o := .cells #[.int .i64 a1_0, .int .i64 a1_1] 23 (0, 0)) (bk_ BK415.out) hb)
            have n2_ := Aside0.mk (below_step HB_ hb)
            clear BK414
            clear BK415
            clear HB
            have BK414 := n0_
            have BK415 := n1_
            have HB := n2_
            clear n0_ n1_ n2_
            (try clear hb)
            (try clear hb2)
            (try clear hk)
            (try clear hi)
            refine hK.out _ _ ⟨(blk_cell BK414.out 0).trans rfl, (blk_cell BK414.out 1).trans rfl, (blk_cell BK415.out 0).trans rfl, (blk_cell BK415.out 1).trans rfl⟩ (fun hHeld => ?_)
            clear hK K
            refine norm_ (a' := ?_) ?_ ?_
            rotate_left
            · show Act.put _ (some 38) _ = _
              simp only [Act.put, List.setIfInBounds_toArray, List.set_cons_zero, List.set_cons_succ, i64_w, i32_w]
              rfl
            refine one_ (i := 29) (N := some 40) #[true, true, true, true, true, true, true, true, true, true, true, true, true, true, true, true, true, true, true, true, true, true, true, true, true, true, true, true, true, true, false] rfl rfl (one_of HT_.out (by kernel_rfl)) (by decide) (fun K hK => ?_)
            refine goes_ Tryd.func14 (by kernel_rfl) rfl #[.agg #[.int .i64 t433, .int .i64 t434], .int .i64 a3] (by rfl) rfl rfl MP_ ?_
            with_reducible refine (itv_Has.calls t433 t434 a3 t435 _ A39.out).mono ?_
            rintro e w48 ⟨rfl, hb⟩
            refine ⟨_, rfl, ?_⟩
            have n0_ := Aside0.mk (blk_below (g := gb414) (o := .cells #[.int .i64 a0_0, .int .i64 a0_1] 23 (0, 0)) (bk_ BK414.out) hb)
            have n1_ := Aside0.mk (blk_below (g := gb415) (o := .cells #[.int .i64 a1_0, .int .i64 a1_1] 23 (0, 0)) (bk_ BK415.out) hb)
            have n2_ := Aside0.mk (below_step HB_ hb)
            clear BK414
            clear BK415
            clear HB
            have BK414 := n0_
            have BK415 := n1_
            have HB := n2_
            clear n0_ n1_ n2_
            (try clear hb)
            (try clear hb2)
            (try clear hk)
            (try clear hi)
            refine hK.out _ _ ⟨(blk_cell BK414.out 0).trans rfl, (blk_cell BK414.out 1).trans rfl, (blk_cell BK415.out 0).trans rfl, (blk_cell BK415.out 1).trans rfl⟩ (fun hHeld => ?_)
            clear hK K
            refine norm_ (a' := ?_) ?_ ?_
            rotate_left
            · show Act.put _ (some 40) _ = _
              simp only [Act.put, List.setIfInBounds_toArray, List.set_cons_zero, List.set_cons_succ, i64_w, i32_w]
              rfl
            refine pure_ (i := 30) (N := some 41) (v := ?_) (a' := ?_) #[true, true, true, true, true, true, true, true, true, true, true, true, true, true, true, true, true, true, true, true, true, true, true, true, true, true, true, true, true, true, true] rfl rfl (any_of HT_.out (by kernel_rfl)) (fun _ _ _ h => h) (Or.inl ⟨by rfl, ?_⟩) ?_ ?_
            rotate_left
            · intro w'
              go_simp
              with_reducible rfl
            rotate_left
            · exact AP_
            refine done_ (done_of HT_.out (by kernel_rfl)) ?_
            try go_wp2
            go_meet
            case rel => exact ⟨_, (t435), (by first | rfl | (simp; done) | (simp [*]; done)), H', ⟨by first | omega | exact Nat.le_refl _⟩, ⟨by (with_reducible repeat (first | refine blk_drewN ?_ _ | refine blk_drew ?_ | refine blk_alloc ?_ _)); exact BK414.out⟩, ⟨by (with_reducible repeat (first | refine blk_drewN ?_ _ | refine blk_drew ?_ | refine blk_alloc ?_ _)); exact BK415.out⟩, ⟨by repeat (first | (with_reducible first | exact HB.out | apply below_alloc | apply pw_below_drewN | apply below_drew1 | refine below_set ?_ GE414.out | refine below_set ?_ GE415.out) | exact HB.out)⟩⟩
    · replace c10 := Bool.eq_false_iff.mpr c10
      subst c10
      have H1 : (none) = some r := by rw [if_neg (show ¬ (false = true) by decide)] at H; exact H
      clear H
      have H := H1
      clear H1
      exact absurd H (by simp)
  case rest =>
    clear HC6
    try clear c1
    try clear c2
    try clear p2
    try clear c3
    try clear c8
    try clear c10
    try clear c14
    try clear c21
    try clear c31
    try clear c32
    try clear c33
    try clear c33b0
    try clear c33b1
    try clear c33b2
    try clear c37
    try clear c37b0
    try clear c37b1
    try clear c37b2
    obtain ⟨kq, x41_5, rfl, HA, HJ5, BK414, BK415, HB⟩ := hcut
    cases kq with
    | zero => exact absurd HA.out (by simp [warrantorlaw07_ItvSets.j0])
    | succ kj5 =>
      have H := HA.out
      clear HA
      simp only [warrantorlaw07_ItvSets.j0] at H
      by_cases c49 : x41_5 = true
      · subst c49
        have H1 : (none) = some r := by rw [if_pos rfl] at H; exact H
        clear H
        have H := H1
        clear H1
        exact absurd H (by simp)
      · replace c49 := Bool.eq_false_iff.mpr c49
        subst c49
        have H1 : ((itv_Has.f a0_0 a0_1 a3).bind fun t436 => (if t436 = true then ((itv_Join.f a0_0 a0_1 a1_0 a1_1).bind fun bt437 => ((itv_Has.f bt437.1 bt437.2 a3).bind fun t439 => (if t439 = true then ((itv_Has.f a1_0 a1_1 a3).bind fun t440 => (if t440 = true then ((itv_Widen.f a0_0 a0_1 a1_0 a1_1).bind fun bt441 => ((itv_Has.f bt441.1 bt441.2 a3).bind fun t443 => (if t443 = true then ((itv_Has.f a0_0 a0_1 a3).bind fun t444 => (if t444 = true then ((itv_Widen.f a0_0 a0_1 a1_0 a1_1).bind fun bt445 => ((itv_Has.f bt445.1 bt445.2 a3).bind fun t447 => (warrantorlaw07_ItvSets.j1 kj5 a2 a3 a4 (!t447) a0_0 a0_1 a1_0 a1_1))) else (warrantorlaw07_ItvSets.j1 kj5 a2 a3 a4 false a0_0 a0_1 a1_0 a1_1))) else (none)))) else ((itv_Has.f a0_0 a0_1 a3).bind fun t448 => (if t448 = true then ((itv_Widen.f a0_0 a0_1 a1_0 a1_1).bind fun bt449 => ((itv_Has.f bt449.1 bt449.2 a3).bind fun t451 => (warrantorlaw07_ItvSets.j1 kj5 a2 a3 a4 (!t451) a0_0 a0_1 a1_0 a1_1))) else (warrantorlaw07_ItvSets.j1 kj5 a2 a3 a4 false a0_0 a0_1 a1_0 a1_1))))) else (none)))) else ((itv_Has.f a1_0 a1_1 a3).bind fun t452 => (if t452 = true then ((itv_Widen.f a0_0 a0_1 a1_0 a1_1).bind fun bt453 => ((itv_Has.f bt453.1 bt453.2 a3).bind fun t455 => (if t455 = true then ((itv_Has.f a0_0 a0_1 a3).bind fun t456 => (if t456 = true then ((itv_Widen.f a0_0 a0_1 a1_0 a1_1).bind fun bt457 => ((itv_Has.f bt457.1 bt457.2 a3).bind fun t459 => (warrantorlaw07_ItvSets.j1 kj5 a2 a3 a4 (!t459) a0_0 a0_1 a1_0 a1_1))) else (warrantorlaw07_ItvSets.j1 kj5 a2 a3 a4 false a0_0 a0_1 a1_0 a1_1))) else (none)))) else ((itv_Has.f a0_0 a0_1 a3).bind fun t460 => (if t460 = true then ((itv_Widen.f a0_0 a0_1 a1_0 a1_1).bind fun bt461 => ((itv_Has.f bt461.1 bt461.2 a3).bind fun t463 => (warrantorlaw07_ItvSets.j1 kj5 a2 a3 a4 (!t463) a0_0 a0_1 a1_0 a1_1))) else (warrantorlaw07_ItvSets.j1 kj5 a2 a3 a4 false a0_0 a0_1 a1_0 a1_1))))))) = some r := by rw [if_neg (show ¬ (false = true) by decide)] at H; exact H
        clear H
        have H := H1
        clear H1
        have HC50 := Aside0.mk H
        clear H
        go_upto_region 3 with (fail)
        go_cut [78] (fun v78 wc => ∃ (kq : Nat) (x78_49 : Bool), v78 = .bool x78_49 ∧ Aside0 (warrantorlaw07_ItvSets.j1 kq a2 a3 a4 x78_49 a0_0 a0_1 a1_0 a1_1 = some r) ∧ Aside0 (kq ≤ kj5) ∧ Aside0 (wc.heap[gb414]? = some (.cells #[.int .i64 a0_0, .int .i64 a0_1] 23 (0, 0))) ∧ Aside0 (wc.heap[gb415]? = some (.cells #[.int .i64 a1_0, .int .i64 a1_1] 23 (0, 0))) ∧ Aside0 (Below w.heap.size w wc))
        case first =>
          have H := HC50.out
          clear HC50
          replace H := Option.bind_eq_some_iff.mp H
          obtain ⟨t436, A510, H⟩ := H
          replace H : (if t436 = true then ((itv_Join.f a0_0 a0_1 a1_0 a1_1).bind fun bt437 => ((itv_Has.f bt437.1 bt437.2 a3).bind fun t439 => (if t439 = true then ((itv_Has.f a1_0 a1_1 a3).bind fun t440 => (if t440 = true then ((itv_Widen.f a0_0 a0_1 a1_0 a1_1).bind fun bt441 => ((itv_Has.f bt441.1 bt441.2 a3).bind fun t443 => (if t443 = true then ((itv_Has.f a0_0 a0_1 a3).bind fun t444 => (if t444 = true then ((itv_Widen.f a0_0 a0_1 a1_0 a1_1).bind fun bt445 => ((itv_Has.f bt445.1 bt445.2 a3).bind fun t447 => (warrantorlaw07_ItvSets.j1 kj5 a2 a3 a4 (!t447) a0_0 a0_1 a1_0 a1_1))) else (warrantorlaw07_ItvSets.j1 kj5 a2 a3 a4 false a0_0 a0_1 a1_0 a1_1))) else (none)))) else ((itv_Has.f a0_0 a0_1 a3).bind fun t448 => (if t448 = true then ((itv_Widen.f a0_0 a0_1 a1_0 a1_1).bind fun bt449 => ((itv_Has.f bt449.1 bt449.2 a3).bind fun t451 => (warrantorlaw07_ItvSets.j1 kj5 a2 a3 a4 (!t451) a0_0 a0_1 a1_0 a1_1))) else (warrantorlaw07_ItvSets.j1 kj5 a2 a3 a4 false a0_0 a0_1 a1_0 a1_1))))) else (none)))) else ((itv_Has.f a1_0 a1_1 a3).bind fun t452 => (if t452 = true then ((itv_Widen.f a0_0 a0_1 a1_0 a1_1).bind fun bt453 => ((itv_Has.f bt453.1 bt453.2 a3).bind fun t455 => (if t455 = true then ((itv_Has.f a0_0 a0_1 a3).bind fun t456 => (if t456 = true then ((itv_Widen.f a0_0 a0_1 a1_0 a1_1).bind fun bt457 => ((itv_Has.f bt457.1 bt457.2 a3).bind fun t459 => (warrantorlaw07_ItvSets.j1 kj5 a2 a3 a4 (!t459) a0_0 a0_1 a1_0 a1_1))) else (warrantorlaw07_ItvSets.j1 kj5 a2 a3 a4 false a0_0 a0_1 a1_0 a1_1))) else (none)))) else ((itv_Has.f a0_0 a0_1 a3).bind fun t460 => (if t460 = true then ((itv_Widen.f a0_0 a0_1 a1_0 a1_1).bind fun bt461 => ((itv_Has.f bt461.1 bt461.2 a3).bind fun t463 => (warrantorlaw07_ItvSets.j1 kj5 a2 a3 a4 (!t463) a0_0 a0_1 a1_0 a1_1))) else (warrantorlaw07_ItvSets.j1 kj5 a2 a3 a4 false a0_0 a0_1 a1_0 a1_1)))))) = some r := H
          have A51 := Aside0.mk A510
          clear A510
          by_cases c52 : t436 = true
          · subst c52
            have H1 : ((itv_Join.f a0_0 a0_1 a1_0 a1_1).bind fun bt437 => ((itv_Has.f bt437.1 bt437.2 a3).bind fun t439 => (if t439 = true then ((itv_Has.f a1_0 a1_1 a3).bind fun t440 => (if t440 = true then ((itv_Widen.f a0_0 a0_1 a1_0 a1_1).bind fun bt441 => ((itv_Has.f bt441.1 bt441.2 a3).bind fun t443 => (if t443 = true then ((itv_Has.f a0_0 a0_1 a3).bind fun t444 => (if t444 = true then ((itv_Widen.f a0_0 a0_1 a1_0 a1_1).bind fun bt445 => ((itv_Has.f bt445.1 bt445.2 a3).bind fun t447 => (warrantorlaw07_ItvSets.j1 kj5 a2 a3 a4 (!t447) a0_0 a0_1 a1_0 a1_1))) else (warrantorlaw07_ItvSets.j1 kj5 a2 a3 a4 false a0_0 a0_1 a1_0 a1_1))) else (none)))) else ((itv_Has.f a0_0 a0_1 a3).bind fun t448 => (if t448 = true then ((itv_Widen.f a0_0 a0_1 a1_0 a1_1).bind fun bt449 => ((itv_Has.f bt449.1 bt449.2 a3).bind fun t451 => (warrantorlaw07_ItvSets.j1 kj5 a2 a3 a4 (!t451) a0_0 a0_1 a1_0 a1_1))) else (warrantorlaw07_ItvSets.j1 kj5 a2 a3 a4 false a0_0 a0_1 a1_0 a1_1))))) else (none)))) = some r := by rw [if_pos rfl] at H; exact H
            clear H
            have H := H1
            clear H1
            replace H := Option.bind_eq_some_iff.mp H
            obtain ⟨⟨t437, t438⟩, A530, H⟩ := H
            replace H : ((itv_Has.f t437 t438 a3).bind fun t439 => (if t439 = true then ((itv_Has.f a1_0 a1_1 a3).bind fun t440 => (if t440 = true then ((itv_Widen.f a0_0 a0_1 a1_0 a1_1).bind fun bt441 => ((itv_Has.f bt441.1 bt441.2 a3).bind fun t443 => (if t443 = true then ((itv_Has.f a0_0 a0_1 a3).bind fun t444 => (if t444 = true then ((itv_Widen.f a0_0 a0_1 a1_0 a1_1).bind fun bt445 => ((itv_Has.f bt445.1 bt445.2 a3).bind fun t447 => (warrantorlaw07_ItvSets.j1 kj5 a2 a3 a4 (!t447) a0_0 a0_1 a1_0 a1_1))) else (warrantorlaw07_ItvSets.j1 kj5 a2 a3 a4 false a0_0 a0_1 a1_0 a1_1))) else (none)))) else ((itv_Has.f a0_0 a0_1 a3).bind fun t448 => (if t448 = true then ((itv_Widen.f a0_0 a0_1 a1_0 a1_1).bind fun bt449 => ((itv_Has.f bt449.1 bt449.2 a3).bind fun t451 => (warrantorlaw07_ItvSets.j1 kj5 a2 a3 a4 (!t451) a0_0 a0_1 a1_0 a1_1))) else (warrantorlaw07_ItvSets.j1 kj5 a2 a3 a4 false a0_0 a0_1 a1_0 a1_1))))) else (none))) = some r := H
            have A53 := Aside0.mk A530
            clear A530
            replace H := Option.bind_eq_some_iff.mp H
            obtain ⟨t439, A540, H⟩ := H
            replace H : (if t439 = true then ((itv_Has.f a1_0 a1_1 a3).bind fun t440 => (if t440 = true then ((itv_Widen.f a0_0 a0_1 a1_0 a1_1).bind fun bt441 => ((itv_Has.f bt441.1 bt441.2 a3).bind fun t443 => (if t443 = true then ((itv_Has.f a0_0 a0_1 a3).bind fun t444 => (if t444 = true then ((itv_Widen.f a0_0 a0_1 a1_0 a1_1).bind fun bt445 => ((itv_Has.f bt445.1 bt445.2 a3).bind fun t447 => (warrantorlaw07_ItvSets.j1 kj5 a2 a3 a4 (!t447) a0_0 a0_1 a1_0 a1_1))) else (warrantorlaw07_ItvSets.j1 kj5 a2 a3 a4 false a0_0 a0_1 a1_0 a1_1))) else (none)))) else ((itv_Has.f a0_0 a0_1 a3).bind fun t448 => (if t448 = true then ((itv_Widen.f a0_0 a0_1 a1_0 a1_1).bind fun bt449 => ((itv_Has.f bt449.1 bt449.2 a3).bind fun t451 => (warrantorlaw07_ItvSets.j1 kj5 a2 a3 a4 (!t451) a0_0 a0_1 a1_0 a1_1))) else (warrantorlaw07_ItvSets.j1 kj5 a2 a3 a4 false a0_0 a0_1 a1_0 a1_1))))) else (none)) = some r := H
            have A54 := Aside0.mk A540
            clear A540
            by_cases c55 : t439 = true
            · subst c55
              have H1 : ((itv_Has.f a1_0 a1_1 a3).bind fun t440 => (if t440 = true then ((itv_Widen.f a0_0 a0_1 a1_0 a1_1).bind fun bt441 => ((itv_Has.f bt441.1 bt441.2 a3).bind fun t443 => (if t443 = true then ((itv_Has.f a0_0 a0_1 a3).bind fun t444 => (if t444 = true then ((itv_Widen.f a0_0 a0_1 a1_0 a1_1).bind fun bt445 => ((itv_Has.f bt445.1 bt445.2 a3).bind fun t447 => (warrantorlaw07_ItvSets.j1 kj5 a2 a3 a4 (!t447) a0_0 a0_1 a1_0 a1_1))) else (warrantorlaw07_ItvSets.j1 kj5 a2 a3 a4 false a0_0 a0_1 a1_0 a1_1))) else (none)))) else ((itv_Has.f a0_0 a0_1 a3).bind fun t448 => (if t448 = true then ((itv_Widen.f a0_0 a0_1 a1_0 a1_1).bind fun bt449 => ((itv_Has.f bt449.1 bt449.2 a3).bind fun t451 => (warrantorlaw07_ItvSets.j1 kj5 a2 a3 a4 (!t451) a0_0 a0_1 a1_0 a1_1))) else (warrantorlaw07_ItvSets.j1 kj5 a2 a3 a4 false a0_0 a0_1 a1_0 a1_1))))) = some r := by rw [if_pos rfl] at H; exact H
              clear H
              have H := H1
              clear H1
              replace H := Option.bind_eq_some_iff.mp H
              obtain ⟨t440, A560, H⟩ := H
              replace H : (if t440 = true then ((itv_Widen.f a0_0 a0_1 a1_0 a1_1).bind fun bt441 => ((itv_Has.f bt441.1 bt441.2 a3).bind fun t443 => (if t443 = true then ((itv_Has.f a0_0 a0_1 a3).bind fun t444 => (if t444 = true then ((itv_Widen.f a0_0 a0_1 a1_0 a1_1).bind fun bt445 => ((itv_Has.f bt445.1 bt445.2 a3).bind fun t447 => (warrantorlaw07_ItvSets.j1 kj5 a2 a3 a4 (!t447) a0_0 a0_1 a1_0 a1_1))) else (warrantorlaw07_ItvSets.j1 kj5 a2 a3 a4 false a0_0 a0_1 a1_0 a1_1))) else (none)))) else ((itv_Has.f a0_0 a0_1 a3).bind fun t448 => (if t448 = true then ((itv_Widen.f a0_0 a0_1 a1_0 a1_1).bind fun bt449 => ((itv_Has.f bt449.1 bt449.2 a3).bind fun t451 => (warrantorlaw07_ItvSets.j1 kj5 a2 a3 a4 (!t451) a0_0 a0_1 a1_0 a1_1))) else (warrantorlaw07_ItvSets.j1 kj5 a2 a3 a4 false a0_0 a0_1 a1_0 a1_1)))) = some r := H
              have A56 := Aside0.mk A560
              clear A560
              by_cases c57 : t440 = true
              · subst c57
                have H1 : ((itv_Widen.f a0_0 a0_1 a1_0 a1_1).bind fun bt441 => ((itv_Has.f bt441.1 bt441.2 a3).bind fun t443 => (if t443 = true then ((itv_Has.f a0_0 a0_1 a3).bind fun t444 => (if t444 = true then ((itv_Widen.f a0_0 a0_1 a1_0 a1_1).bind fun bt445 => ((itv_Has.f bt445.1 bt445.2 a3).bind fun t447 => (warrantorlaw07_ItvSets.j1 kj5 a2 a3 a4 (!t447) a0_0 a0_1 a1_0 a1_1))) else (warrantorlaw07_ItvSets.j1 kj5 a2 a3 a4 false a0_0 a0_1 a1_0 a1_1))) else (none)))) = some r := by rw [if_pos rfl] at H; exact H
                clear H
                have H := H1
                clear H1
                replace H := Option.bind_eq_some_iff.mp H
                obtain ⟨⟨t441, t442⟩, A580, H⟩ := H
                replace H : ((itv_Has.f t441 t442 a3).bind fun t443 => (if t443 = true then ((itv_Has.f a0_0 a0_1 a3).bind fun t444 => (if t444 = true then ((itv_Widen.f a0_0 a0_1 a1_0 a1_1).bind fun bt445 => ((itv_Has.f bt445.1 bt445.2 a3).bind fun t447 => (warrantorlaw07_ItvSets.j1 kj5 a2 a3 a4 (!t447) a0_0 a0_1 a1_0 a1_1))) else (warrantorlaw07_ItvSets.j1 kj5 a2 a3 a4 false a0_0 a0_1 a1_0 a1_1))) else (none))) = some r := H
                have A58 := Aside0.mk A580
                clear A580
                replace H := Option.bind_eq_some_iff.mp H
                obtain ⟨t443, A590, H⟩ := H
                replace H : (if t443 = true then ((itv_Has.f a0_0 a0_1 a3).bind fun t444 => (if t444 = true then ((itv_Widen.f a0_0 a0_1 a1_0 a1_1).bind fun bt445 => ((itv_Has.f bt445.1 bt445.2 a3).bind fun t447 => (warrantorlaw07_ItvSets.j1 kj5 a2 a3 a4 (!t447) a0_0 a0_1 a1_0 a1_1))) else (warrantorlaw07_ItvSets.j1 kj5 a2 a3 a4 false a0_0 a0_1 a1_0 a1_1))) else (none)) = some r := H
                have A59 := Aside0.mk A590
                clear A590
                by_cases c60 : t443 = true
                · subst c60
                  have H1 : ((itv_Has.f a0_0 a0_1 a3).bind fun t444 => (if t444 = true then ((itv_Widen.f a0_0 a0_1 a1_0 a1_1).bind fun bt445 => ((itv_Has.f bt445.1 bt445.2 a3).bind fun t447 => (warrantorlaw07_ItvSets.j1 kj5 a2 a3 a4 (!t447) a0_0 a0_1 a1_0 a1_1))) else (warrantorlaw07_ItvSets.j1 kj5 a2 a3 a4 false a0_0 a0_1 a1_0 a1_1))) = some r := by rw [if_pos rfl] at H; exact H
                  clear H
                  have H := H1
                  clear H1
                  replace H := Option.bind_eq_some_iff.mp H
                  obtain ⟨t444, A610, H⟩ := H
                  replace H : (if t444 = true then ((itv_Widen.f a0_0 a0_1 a1_0 a1_1).bind fun bt445 => ((itv_Has.f bt445.1 bt445.2 a3).bind fun t447 => (warrantorlaw07_ItvSets.j1 kj5 a2 a3 a4 (!t447) a0_0 a0_1 a1_0 a1_1))) else (warrantorlaw07_ItvSets.j1 kj5 a2 a3 a4 false a0_0 a0_1 a1_0 a1_1)) = some r := H
                  have A61 := Aside0.mk A610
                  clear A610
                  by_cases c62 : t444 = true
                  · subst c62
                    have H1 : ((itv_Widen.f a0_0 a0_1 a1_0 a1_1).bind fun bt445 => ((itv_Has.f bt445.1 bt445.2 a3).bind fun t447 => (warrantorlaw07_ItvSets.j1 kj5 a2 a3 a4 (!t447) a0_0 a0_1 a1_0 a1_1))) = some r := by rw [if_pos rfl] at H; exact H
                    clear H
                    have H := H1
                    clear H1
                    replace H := Option.bind_eq_some_iff.mp H
                    obtain ⟨⟨t445, t446⟩, A630, H⟩ := H
                    replace H : ((itv_Has.f t445 t446 a3).bind fun t447 => (warrantorlaw07_ItvSets.j1 kj5 a2 a3 a4 (!t447) a0_0 a0_1 a1_0 a1_1)) = some r := H
                    have A63 := Aside0.mk A630
                    clear A630
                    replace H := Option.bind_eq_some_iff.mp H
                    obtain ⟨t447, A640, H⟩ := H
                    replace H : (warrantorlaw07_ItvSets.j1 kj5 a2 a3 a4 (!t447) a0_0 a0_1 a1_0 a1_1) = some r := H
                    have A64 := Aside0.mk A640
                    clear A640
                    have H' := Aside0.mk H
                    clear H
                    have hnb65 := NB414_415.out
                    have hnc65 := NB415_414.out
                    have hcz66_0 : wc.cell? ⟨gb414, 0, none⟩ = some (.int .i64 a0_0) := (blk_cell BK414.out 0).trans rfl
                    have hcz66_1 : wc.cell? ⟨gb414, 1, none⟩ = some (.int .i64 a0_1) := (blk_cell BK414.out 1).trans rfl
                    have hfz66_0 := blk_frozen BK414.out 0
                    have hfz66_1 := blk_frozen BK414.out 1
                    go_wp2_with (first | ((with_reducible refine gate_callee (f := 14) rfl ?_); refine goesL_ (some 44) rfl rfl Tryd.func14 (by kernel_rfl) rfl #[.agg #[.int .i64 a0_0, .int .i64 a0_1], .int .i64 a3] rfl MP_ ?_; (with_reducible refine (itv_Has.calls a0_0 a0_1 a3 true _ A51.out).mono ?_); rintro e w67 ⟨rfl, hb⟩; refine ⟨_, rfl, ?_⟩; have n0_ := Aside0.mk (blk_below (g := gb414) (o := .cells #[.int .i64 a0_0, .int .i64 a0_1] 23 (0, 0)) (bk_ BK414.out) hb); have n1_ := Aside0.mk (blk_below (g := gb415) (o := .cells #[.int .i64 a1_0, .int .i64 a1_1] 23 (0, 0)) (bk_ BK415.out) hb); have n2_ := Aside0.mk (below_step HB_ hb); clear BK414; clear BK415; clear HB; have BK414 := n0_; have BK415 := n1_; have HB := n2_; clear n0_ n1_ n2_; (try clear hb); (try clear hb2); (try clear hk); (try clear hi); have hcz68_0 : w67.cell? ⟨gb414, 0, none⟩ = some (.int .i64 a0_0) := (blk_cell BK414.out 0).trans rfl; have hcz68_1 : w67.cell? ⟨gb414, 1, none⟩ = some (.int .i64 a0_1) := (blk_cell BK414.out 1).trans rfl; have hfz68_0 := blk_frozen BK414.out 0; have hfz68_1 := blk_frozen BK414.out 1; have hcz69_0 : w67.cell? ⟨gb415, 0, none⟩ = some (.int .i64 a1_0) := (blk_cell BK415.out 0).trans rfl; have hcz69_1 : w67.cell? ⟨gb415, 1, none⟩ = some (.int .i64 a1_1) := (blk_cell BK415.out 1).trans rfl; have hfz69_0 := blk_frozen BK415.out 0; have hfz69_1 := blk_frozen BK415.out 1; (try clear A51)) | (go_at_call 19; (with_reducible refine (itv_Join.calls a0_0 a0_1 a1_0 a1_1 t437 t438 _ A53.out).mono ?_); rintro e w70 ⟨rfl, hb⟩; have n0_ := Aside0.mk (blk_below (g := gb414) (o := .cells #[.int .i64 a0_0, .int .i64 a0_1] 23 (0, 0)) (bk_ BK414.out) hb); have n1_ := Aside0.mk (blk_below (g := gb415) (o := .cells #[.int .i64 a1_0, .int .i64 a1_1] 23 (0, 0)) (bk_ BK415.out) hb); have n2_ := Aside0.mk (below_step HB_ hb); clear BK414; clear BK415; clear HB; have BK414 := n0_; have BK415 := n1_; have HB := n2_; clear n0_ n1_ n2_; (try clear hb); (try clear hb2); (try clear hk); (try clear hi)) | (go_at_call 14; (with_reducible refine (itv_Has.calls t437 t438 a3 true _ A54.out).mono ?_); rintro e w71 ⟨rfl, hb⟩; have n0_ := Aside0.mk (blk_below (g := gb414) (o := .cells #[.int .i64 a0_0, .int .i64 a0_1] 23 (0, 0)) (bk_ BK414.out) hb); have n1_ := Aside0.mk (blk_below (g := gb415) (o := .cells #[.int .i64 a1_0, .int .i64 a1_1] 23 (0, 0)) (bk_ BK415.out) hb); have n2_ := Aside0.mk (below_step HB_ hb); clear BK414; clear BK415; clear HB; have BK414 := n0_; have BK415 := n1_; have HB := n2_; clear n0_ n1_ n2_; (try clear hb); (try clear hb2); (try clear hk); (try clear hi); have hcz72_0 : w71.cell? ⟨gb415, 0, none⟩ = some (.int .i64 a1_0) := (blk_cell BK415.out 0).trans rfl; have hcz72_1 : w71.cell? ⟨gb415, 1, none⟩ = some (.int .i64 a1_1) := (blk_cell BK415.out 1).trans rfl; have hfz72_0 := blk_frozen BK415.out 0; have hfz72_1 := blk_frozen BK415.out 1; (try clear A54)) | (go_at_call 14; (with_reducible refine (itv_Has.calls a1_0 a1_1 a3 true _ A56.out).mono ?_); rintro e w73 ⟨rfl, hb⟩; have n0_ := Aside0.mk (blk_below (g := gb414) (o := .cells #[.int .i64 a0_0, .int .i64 a0_1] 23 (0, 0)) (bk_ BK414.out) hb); have n1_ := Aside0.mk (blk_below (g := gb415) (o := .cells #[.int .i64 a1_0, .int .i64 a1_1] 23 (0, 0)) (bk_ BK415.out) hb); have n2_ := Aside0.mk (below_step HB_ hb); clear BK414; clear BK415; clear HB; have BK414 := n0_; have BK415 := n1_; have HB := n2_; clear n0_ n1_ n2_; (try clear hb); (try clear hb2); (try clear hk); (try clear hi); have hcz74_0 : w73.cell? ⟨gb414, 0, none⟩ = some (.int .i64 a0_0) := (blk_cell BK414.out 0).trans rfl; have hcz74_1 : w73.cell? ⟨gb414, 1, none⟩ = some (.int .i64 a0_1) := (blk_cell BK414.out 1).trans rfl; have hfz74_0 := blk_frozen BK414.out 0; have hfz74_1 := blk_frozen BK414.out 1; have hcz75_0 : w73.cell? ⟨gb415, 0, none⟩ = some (.int .i64 a1_0) := (blk_cell BK415.out 0).trans rfl; have hcz75_1 : w73.cell? ⟨gb415, 1, none⟩ = some (.int .i64 a1_1) := (blk_cell BK415.out 1).trans rfl; have hfz75_0 := blk_frozen BK415.out 0; have hfz75_1 := blk_frozen BK415.out 1; (try clear A56)) | (go_at_call 29; (with_reducible refine (itv_Widen.calls a0_0 a0_1 a1_0 a1_1 t441 t442 _ A58.out).mono ?_); rintro e w76 ⟨rfl, hb⟩; have n0_ := Aside0.mk (blk_below (g := gb414) (o := .cells #[.int .i64 a0_0, .int .i64 a0_1] 23 (0, 0)) (bk_ BK414.out) hb); have n1_ := Aside0.mk (blk_below (g := gb415) (o := .cells #[.int .i64 a1_0, .int .i64 a1_1] 23 (0, 0)) (bk_ BK415.out) hb); have n2_ := Aside0.mk (below_step HB_ hb); clear BK414; clear BK415; clear HB; have BK414 := n0_; have BK415 := n1_; have HB := n2_; clear n0_ n1_ n2_; (try clear hb); (try clear hb2); (try clear hk); (try clear hi); (try clear A58)) | (go_at_call 14; (with_reducible refine (itv_Has.calls t441 t442 a3 true _ A59.out).mono ?_); rintro e w77 ⟨rfl, hb⟩; have n0_ := Aside0.mk (blk_below (g := gb414) (o := .cells #[.int .i64 a0_0, .int .i64 a0_1] 23 (0, 0)) (bk_ BK414.out) hb); have n1_ := Aside0.mk (blk_below (g := gb415) (o := .cells #[.int .i64 a1_0, .int .i64 a1_1] 23 (0, 0)) (bk_ BK415.out) hb); have n2_ := Aside0.mk (below_step HB_ hb); clear BK414; clear BK415; clear HB; have BK414 := n0_; have BK415 := n1_; have HB := n2_; clear n0_ n1_ n2_; (try clear hb); (try clear hb2); (try clear hk); (try clear hi); have hcz78_0 : w77.cell? ⟨gb414, 0, none⟩ = some (.int .i64 a0_0) := (blk_cell BK414.out 0).trans rfl; have hcz78_1 : w77.cell? ⟨gb414, 1, none⟩ = some (.int .i64 a0_1) := (blk_cell BK414.out 1).trans rfl; have hfz78_0 := blk_frozen BK414.out 0; have hfz78_1 := blk_frozen BK414.out 1; (try clear A59)) | (go_at_call 14; (with_reducible refine (itv_Has.calls a0_0 a0_1 a3 true _ A61.out).mono ?_); rintro e w79 ⟨rfl, hb⟩; have n0_ := Aside0.mk (blk_below (g := gb414) (o := .cells #[.int .i64 a0_0, .int .i64 a0_1] 23 (0, 0)) (bk_ BK414.out) hb); have n1_ := Aside0.mk (blk_below (g := gb415) (o := .cells #[.int .i64 a1_0, .int .i64 a1_1] 23 (0, 0)) (bk_ BK415.out) hb); have n2_ := Aside0.mk (below_step HB_ hb); clear BK414; clear BK415; clear HB; have BK414 := n0_; have BK415 := n1_; have HB := n2_; clear n0_ n1_ n2_; (try clear hb); (try clear hb2); (try clear hk); (try clear hi); have hcz80_0 : w79.cell? ⟨gb414, 0, none⟩ = some (.int .i64 a0_0) := (blk_cell BK414.out 0).trans rfl; have hcz80_1 : w79.cell? ⟨gb414, 1, none⟩ = some (.int .i64 a0_1) := (blk_cell BK414.out 1).trans rfl; have hfz80_0 := blk_frozen BK414.out 0; have hfz80_1 := blk_frozen BK414.out 1; have hcz81_0 : w79.cell? ⟨gb415, 0, none⟩ = some (.int .i64 a1_0) := (blk_cell BK415.out 0).trans rfl; have hcz81_1 : w79.cell? ⟨gb415, 1, none⟩ = some (.int .i64 a1_1) := (blk_cell BK415.out 1).trans rfl; have hfz81_0 := blk_frozen BK415.out 0; have hfz81_1 := blk_frozen BK415.out 1; (try clear A61)) | (go_at_call 29; (with_reducible refine (itv_Widen.calls a0_0 a0_1 a1_0 a1_1 t445 t446 _ A63.out).mono ?_); rintro e w82 ⟨rfl, hb⟩; have n0_ := Aside0.mk (blk_below (g := gb414) (o := .cells #[.int .i64 a0_0, .int .i64 a0_1] 23 (0, 0)) (bk_ BK414.out) hb); have n1_ := Aside0.mk (blk_below (g := gb415) (o := .cells #[.int .i64 a1_0, .int .i64 a1_1] 23 (0, 0)) (bk_ BK415.out) hb); have n2_ := Aside0.mk (below_step HB_ hb); clear BK414; clear BK415; clear HB; have BK414 := n0_; have BK415 := n1_; have HB := n2_; clear n0_ n1_ n2_; (try clear hb); (try clear hb2); (try clear hk); (try clear hi)) | (go_at_call 14; (with_reducible refine (itv_Has.calls t445 t446 a3 t447 _ A64.out).mono ?_); rintro e w83 ⟨rfl, hb⟩; have n0_ := Aside0.mk (blk_below (g := gb414) (o := .cells #[.int .i64 a0_0, .int .i64 a0_1] 23 (0, 0)) (bk_ BK414.out) hb); have n1_ := Aside0.mk (blk_below (g := gb415) (o := .cells #[.int .i64 a1_0, .int .i64 a1_1] 23 (0, 0)) (bk_ BK415.out) hb); have n2_ := Aside0.mk (below_step HB_ hb); clear BK414; clear BK415; clear HB; have BK414 := n0_; have BK415 := n1_; have HB := n2_; clear n0_ n1_ n2_; (try clear hb); (try clear hb2); (try clear hk); (try clear hi)))
                    go_meet
                    case rel => exact ⟨_, (!t447), (by first | rfl | (simp; done) | (simp [*]; done)), H', ⟨by have := HJ5.out; first | omega | exact Nat.le_refl _⟩, ⟨by (with_reducible repeat (first | refine blk_drewN ?_ _ | refine blk_drew ?_ | refine blk_alloc ?_ _)); exact BK414.out⟩, ⟨by (with_reducible repeat (first | refine blk_drewN ?_ _ | refine blk_drew ?_ | refine blk_alloc ?_ _)); exact BK415.out⟩, ⟨by repeat (first | (with_reducible first | exact HB.out | apply below_alloc | apply pw_below_drewN | apply below_drew1 | refine below_set ?_ GE414.out | refine below_set ?_ GE415.out) | exact HB.out)⟩⟩
                  · replace c62 := Bool.eq_false_iff.mpr c62
                    subst c62
                    have H1 : (warrantorlaw07_ItvSets.j1 kj5 a2 a3 a4 false a0_0 a0_1 a1_0 a1_1) = some r := by rw [if_neg (show ¬ (false = true) by decide)] at H; exact H
                    clear H
                    have H := H1
                    clear H1
                    have H' := Aside0.mk H
                    clear H
                    have hnb84 := NB414_415.out
                    have hnc84 := NB415_414.out
                    have hcz85_0 : wc.cell? ⟨gb414, 0, none⟩ = some (.int .i64 a0_0) := (blk_cell BK414.out 0).trans rfl
                    have hcz85_1 : wc.cell? ⟨gb414, 1, none⟩ = some (.int .i64 a0_1) := (blk_cell BK414.out 1).trans rfl
                    have hfz85_0 := blk_frozen BK414.out 0
                    have hfz85_1 := blk_frozen BK414.out 1
                    go_wp2_with (first | ((with_reducible refine gate_callee (f := 14) rfl ?_); refine goesL_ (some 44) rfl rfl Tryd.func14 (by kernel_rfl) rfl #[.agg #[.int .i64 a0_0, .int .i64 a0_1], .int .i64 a3] rfl MP_ ?_; (with_reducible refine (itv_Has.calls a0_0 a0_1 a3 true _ A51.out).mono ?_); rintro e w86 ⟨rfl, hb⟩; refine ⟨_, rfl, ?_⟩; have n0_ := Aside0.mk (blk_below (g := gb414) (o := .cells #[.int .i64 a0_0, .int .i64 a0_1] 23 (0, 0)) (bk_ BK414.out) hb); have n1_ := Aside0.mk (blk_below (g := gb415) (o := .cells #[.int .i64 a1_0, .int .i64 a1_1] 23 (0, 0)) (bk_ BK415.out) hb); have n2_ := Aside0.mk (below_step HB_ hb); clear BK414; clear BK415; clear HB; have BK414 := n0_; have BK415 := n1_; have HB := n2_; clear n0_ n1_ n2_; (try clear hb); (try clear hb2); (try clear hk); (try clear hi); have hcz87_0 : w86.cell? ⟨gb414, 0, none⟩ = some (.int .i64 a0_0) := (blk_cell BK414.out 0).trans rfl; have hcz87_1 : w86.cell? ⟨gb414, 1, none⟩ = some (.int .i64 a0_1) := (blk_cell BK414.out 1).trans rfl; have hfz87_0 := blk_frozen BK414.out 0; have hfz87_1 := blk_frozen BK414.out 1; have hcz88_0 : w86.cell? ⟨gb415, 0, none⟩ = some (.int .i64 a1_0) := (blk_cell BK415.out 0).trans rfl; have hcz88_1 : w86.cell? ⟨gb415, 1, none⟩ = some (.int .i64 a1_1) := (blk_cell BK415.out 1).trans rfl; have hfz88_0 := blk_frozen BK415.out 0; have hfz88_1 := blk_frozen BK415.out 1; (try clear A51)) | (go_at_call 19; (with_reducible refine (itv_Join.calls a0_0 a0_1 a1_0 a1_1 t437 t438 _ A53.out).mono ?_); rintro e w89 ⟨rfl, hb⟩; have n0_ := Aside0.mk (blk_below (g := gb414) (o := .cells #[.int .i64 a0_0, .int .i64 a0_1] 23 (0, 0)) (bk_ BK414.out) hb); have n1_ := Aside0.mk (blk_below (g := gb415) (o := .cells #[.int .i64 a1_0, .int .i64 a1_1] 23 (0, 0)) (bk_ BK415.out) hb); have n2_ := Aside0.mk (below_step HB_ hb); clear BK414; clear BK415; clear HB; have BK414 := n0_; have BK415 := n1_; have HB := n2_; clear n0_ n1_ n2_; (try clear hb); (try clear hb2); (try clear hk); (try clear hi)) | (go_at_call 14; (with_reducible refine (itv_Has.calls t437 t438 a3 true _ A54.out).mono ?_); rintro e w90 ⟨rfl, hb⟩; have n0_ := Aside0.mk (blk_below (g := gb414) (o := .cells #[.int .i64 a0_0, .int .i64 a0_1] 23 (0, 0)) (bk_ BK414.out) hb); have n1_ := Aside0.mk (blk_below (g := gb415) (o := .cells #[.int .i64 a1_0, .int .i64 a1_1] 23 (0, 0)) (bk_ BK415.out) hb); have n2_ := Aside0.mk (below_step HB_ hb); clear BK414; clear BK415; clear HB; have BK414 := n0_; have BK415 := n1_; have HB := n2_; clear n0_ n1_ n2_; (try clear hb); (try clear hb2); (try clear hk); (try clear hi); have hcz91_0 : w90.cell? ⟨gb415, 0, none⟩ = some (.int .i64 a1_0) := (blk_cell BK415.out 0).trans rfl; have hcz91_1 : w90.cell? ⟨gb415, 1, none⟩ = some (.int .i64 a1_1) := (blk_cell BK415.out 1).trans rfl; have hfz91_0 := blk_frozen BK415.out 0; have hfz91_1 := blk_frozen BK415.out 1; (try clear A54)) | (go_at_call 14; (with_reducible refine (itv_Has.calls a1_0 a1_1 a3 true _ A56.out).mono ?_); rintro e w92 ⟨rfl, hb⟩; have n0_ := Aside0.mk (blk_below (g := gb414) (o := .cells #[.int .i64 a0_0, .int .i64 a0_1] 23 (0, 0)) (bk_ BK414.out) hb); have n1_ := Aside0.mk (blk_below (g := gb415) (o := .cells #[.int .i64 a1_0, .int .i64 a1_1] 23 (0, 0)) (bk_ BK415.out) hb); have n2_ := Aside0.mk (below_step HB_ hb); clear BK414; clear BK415; clear HB; have BK414 := n0_; have BK415 := n1_; have HB := n2_; clear n0_ n1_ n2_; (try clear hb); (try clear hb2); (try clear hk); (try clear hi); have hcz93_0 : w92.cell? ⟨gb414, 0, none⟩ = some (.int .i64 a0_0) := (blk_cell BK414.out 0).trans rfl; have hcz93_1 : w92.cell? ⟨gb414, 1, none⟩ = some (.int .i64 a0_1) := (blk_cell BK414.out 1).trans rfl; have hfz93_0 := blk_frozen BK414.out 0; have hfz93_1 := blk_frozen BK414.out 1; have hcz94_0 : w92.cell? ⟨gb415, 0, none⟩ = some (.int .i64 a1_0) := (blk_cell BK415.out 0).trans rfl; have hcz94_1 : w92.cell? ⟨gb415, 1, none⟩ = some (.int .i64 a1_1) := (blk_cell BK415.out 1).trans rfl; have hfz94_0 := blk_frozen BK415.out 0; have hfz94_1 := blk_frozen BK415.out 1; (try clear A56)) | (go_at_call 29; (with_reducible refine (itv_Widen.calls a0_0 a0_1 a1_0 a1_1 t441 t442 _ A58.out).mono ?_); rintro e w95 ⟨rfl, hb⟩; have n0_ := Aside0.mk (blk_below (g := gb414) (o := .cells #[.int .i64 a0_0, .int .i64 a0_1] 23 (0, 0)) (bk_ BK414.out) hb); have n1_ := Aside0.mk (blk_below (g := gb415) (o := .cells #[.int .i64 a1_0, .int .i64 a1_1] 23 (0, 0)) (bk_ BK415.out) hb); have n2_ := Aside0.mk (below_step HB_ hb); clear BK414; clear BK415; clear HB; have BK414 := n0_; have BK415 := n1_; have HB := n2_; clear n0_ n1_ n2_; (try clear hb); (try clear hb2); (try clear hk); (try clear hi)) | (go_at_call 14; (with_reducible refine (itv_Has.calls t441 t442 a3 true _ A59.out).mono ?_); rintro e w96 ⟨rfl, hb⟩; have n0_ := Aside0.mk (blk_below (g := gb414) (o := .cells #[.int .i64 a0_0, .int .i64 a0_1] 23 (0, 0)) (bk_ BK414.out) hb); have n1_ := Aside0.mk (blk_below (g := gb415) (o := .cells #[.int .i64 a1_0, .int .i64 a1_1] 23 (0, 0)) (bk_ BK415.out) hb); have n2_ := Aside0.mk (below_step HB_ hb); clear BK414; clear BK415; clear HB; have BK414 := n0_; have BK415 := n1_; have HB := n2_; clear n0_ n1_ n2_; (try clear hb); (try clear hb2); (try clear hk); (try clear hi); have hcz97_0 : w96.cell? ⟨gb414, 0, none⟩ = some (.int .i64 a0_0) := (blk_cell BK414.out 0).trans rfl; have hcz97_1 : w96.cell? ⟨gb414, 1, none⟩ = some (.int .i64 a0_1) := (blk_cell BK414.out 1).trans rfl; have hfz97_0 := blk_frozen BK414.out 0; have hfz97_1 := blk_frozen BK414.out 1; (try clear A59)) | (go_at_call 14; (with_reducible refine (itv_Has.calls a0_0 a0_1 a3 false _ A61.out).mono ?_); rintro e w98 ⟨rfl, hb⟩; have n0_ := Aside0.mk (blk_below (g := gb414) (o := .cells #[.int .i64 a0_0, .int .i64 a0_1] 23 (0, 0)) (bk_ BK414.out) hb); have n1_ := Aside0.mk (blk_below (g := gb415) (o := .cells #[.int .i64 a1_0, .int .i64 a1_1] 23 (0, 0)) (bk_ BK415.out) hb); have n2_ := Aside0.mk (below_step HB_ hb); clear BK414; clear BK415; clear HB; have BK414 := n0_; have BK415 := n1_; have HB := n2_; clear n0_ n1_ n2_; (try clear hb); (try clear hb2); (try clear hk); (try clear hi)))
                    go_meet
                    case rel => exact ⟨_, (false), (by first | rfl | (simp; done) | (simp [*]; done)), H', ⟨by have := HJ5.out; first | omega | exact Nat.le_refl _⟩, ⟨by (with_reducible repeat (first | refine blk_drewN ?_ _ | refine blk_drew ?_ | refine blk_alloc ?_ _)); exact BK414.out⟩, ⟨by (with_reducible repeat (first | refine blk_drewN ?_ _ | refine blk_drew ?_ | refine blk_alloc ?_ _)); exact BK415.out⟩, ⟨by repeat (first | (with_reducible first | exact HB.out | apply below_alloc | apply pw_below_drewN | apply below_drew1 | refine below_set ?_ GE414.out | refine below_set ?_ GE415.out) | exact HB.out)⟩⟩
                · replace c60 := Bool.eq_false_iff.mpr c60
                  subst c60
                  have H1 : (none) = some r := by rw [if_neg (show ¬ (false = true) by decide)] at H; exact H
                  clear H
                  have H := H1
                  clear H1
                  exact absurd H (by simp)
              · replace c57 := Bool.eq_false_iff.mpr c57
                subst c57
                have H1 : ((itv_Has.f a0_0 a0_1 a3).bind fun t448 => (if t448 = true then ((itv_Widen.f a0_0 a0_1 a1_0 a1_1).bind fun bt449 => ((itv_Has.f bt449.1 bt449.2 a3).bind fun t451 => (warrantorlaw07_ItvSets.j1 kj5 a2 a3 a4 (!t451) a0_0 a0_1 a1_0 a1_1))) else (warrantorlaw07_ItvSets.j1 kj5 a2 a3 a4 false a0_0 a0_1 a1_0 a1_1))) = some r := by rw [if_neg (show ¬ (false = true) by decide)] at H; exact H
                clear H
                have H := H1
                clear H1
                replace H := Option.bind_eq_some_iff.mp H
                obtain ⟨t448, A990, H⟩ := H
                replace H : (if t448 = true then ((itv_Widen.f a0_0 a0_1 a1_0 a1_1).bind fun bt449 => ((itv_Has.f bt449.1 bt449.2 a3).bind fun t451 => (warrantorlaw07_ItvSets.j1 kj5 a2 a3 a4 (!t451) a0_0 a0_1 a1_0 a1_1))) else (warrantorlaw07_ItvSets.j1 kj5 a2 a3 a4 false a0_0 a0_1 a1_0 a1_1)) = some r := H
                have A99 := Aside0.mk A990
                clear A990
                by_cases c100 : t448 = true
                · subst c100
                  have H1 : ((itv_Widen.f a0_0 a0_1 a1_0 a1_1).bind fun bt449 => ((itv_Has.f bt449.1 bt449.2 a3).bind fun t451 => (warrantorlaw07_ItvSets.j1 kj5 a2 a3 a4 (!t451) a0_0 a0_1 a1_0 a1_1))) = some r := by rw [if_pos rfl] at H; exact H
                  clear H
                  have H := H1
                  clear H1
                  replace H := Option.bind_eq_some_iff.mp H
                  obtain ⟨⟨t449, t450⟩, A1010, H⟩ := H
                  replace H : ((itv_Has.f t449 t450 a3).bind fun t451 => (warrantorlaw07_ItvSets.j1 kj5 a2 a3 a4 (!t451) a0_0 a0_1 a1_0 a1_1)) = some r := H
                  have A101 := Aside0.mk A1010
                  clear A1010
                  replace H := Option.bind_eq_some_iff.mp H
                  obtain ⟨t451, A1020, H⟩ := H
                  replace H : (warrantorlaw07_ItvSets.j1 kj5 a2 a3 a4 (!t451) a0_0 a0_1 a1_0 a1_1) = some r := H
                  have A102 := Aside0.mk A1020
                  clear A1020
                  have H' := Aside0.mk H
                  clear H
                  have hnb103 := NB414_415.out
                  have hnc103 := NB415_414.out
                  have hcz104_0 : wc.cell? ⟨gb414, 0, none⟩ = some (.int .i64 a0_0) := (blk_cell BK414.out 0).trans rfl
                  have hcz104_1 : wc.cell? ⟨gb414, 1, none⟩ = some (.int .i64 a0_1) := (blk_cell BK414.out 1).trans rfl
                  have hfz104_0 := blk_frozen BK414.out 0
                  have hfz104_1 := blk_frozen BK414.out 1
                  go_wp2_with (first | ((with_reducible refine gate_callee (f := 14) rfl ?_); refine goesL_ (some 44) rfl rfl Tryd.func14 (by kernel_rfl) rfl #[.agg #[.int .i64 a0_0, .int .i64 a0_1], .int .i64 a3] rfl MP_ ?_; (with_reducible refine (itv_Has.calls a0_0 a0_1 a3 true _ A51.out).mono ?_); rintro e w105 ⟨rfl, hb⟩; refine ⟨_, rfl, ?_⟩; have n0_ := Aside0.mk (blk_below (g := gb414) (o := .cells #[.int .i64 a0_0, .int .i64 a0_1] 23 (0, 0)) (bk_ BK414.out) hb); have n1_ := Aside0.mk (blk_below (g := gb415) (o := .cells #[.int .i64 a1_0, .int .i64 a1_1] 23 (0, 0)) (bk_ BK415.out) hb); have n2_ := Aside0.mk (below_step HB_ hb); clear BK414; clear BK415; clear HB; have BK414 := n0_; have BK415 := n1_; have HB := n2_; clear n0_ n1_ n2_; (try clear hb); (try clear hb2); (try clear hk); (try clear hi); have hcz106_0 : w105.cell? ⟨gb414, 0, none⟩ = some (.int .i64 a0_0) := (blk_cell BK414.out 0).trans rfl; have hcz106_1 : w105.cell? ⟨gb414, 1, none⟩ = some (.int .i64 a0_1) := (blk_cell BK414.out 1).trans rfl; have hfz106_0 := blk_frozen BK414.out 0; have hfz106_1 := blk_frozen BK414.out 1; have hcz107_0 : w105.cell? ⟨gb415, 0, none⟩ = some (.int .i64 a1_0) := (blk_cell BK415.out 0).trans rfl; have hcz107_1 : w105.cell? ⟨gb415, 1, none⟩ = some (.int .i64 a1_1) := (blk_cell BK415.out 1).trans rfl; have hfz107_0 := blk_frozen BK415.out 0; have hfz107_1 := blk_frozen BK415.out 1; (try clear A51)) | (go_at_call 19; (with_reducible refine (itv_Join.calls a0_0 a0_1 a1_0 a1_1 t437 t438 _ A53.out).mono ?_); rintro e w108 ⟨rfl, hb⟩; have n0_ := Aside0.mk (blk_below (g := gb414) (o := .cells #[.int .i64 a0_0, .int .i64 a0_1] 23 (0, 0)) (bk_ BK414.out) hb); have n1_ := Aside0.mk (blk_below (g := gb415) (o := .cells #[.int .i64 a1_0, .int .i64 a1_1] 23 (0, 0)) (bk_ BK415.out) hb); have n2_ := Aside0.mk (below_step HB_ hb); clear BK414; clear BK415; clear HB; have BK414 := n0_; have BK415 := n1_; have HB := n2_; clear n0_ n1_ n2_; (try clear hb); (try clear hb2); (try clear hk); (try clear hi)) | (go_at_call 14; (with_reducible refine (itv_Has.calls t437 t438 a3 true _ A54.out).mono ?_); rintro e w109 ⟨rfl, hb⟩; have n0_ := Aside0.mk (blk_below (g := gb414) (o := .cells #[.int .i64 a0_0, .int .i64 a0_1] 23 (0, 0)) (bk_ BK414.out) hb); have n1_ := Aside0.mk (blk_below (g := gb415) (o := .cells #[.int .i64 a1_0, .int .i64 a1_1] 23 (0, 0)) (bk_ BK415.out) hb); have n2_ := Aside0.mk (below_step HB_ hb); clear BK414; clear BK415; clear HB; have BK414 := n0_; have BK415 := n1_; have HB := n2_; clear n0_ n1_ n2_; (try clear hb); (try clear hb2); (try clear hk); (try clear hi); have hcz110_0 : w109.cell? ⟨gb415, 0, none⟩ = some (.int .i64 a1_0) := (blk_cell BK415.out 0).trans rfl; have hcz110_1 : w109.cell? ⟨gb415, 1, none⟩ = some (.int .i64 a1_1) := (blk_cell BK415.out 1).trans rfl; have hfz110_0 := blk_frozen BK415.out 0; have hfz110_1 := blk_frozen BK415.out 1; (try clear A54)) | (go_at_call 14; (with_reducible refine (itv_Has.calls a1_0 a1_1 a3 false _ A56.out).mono ?_); rintro e w111 ⟨rfl, hb⟩; have n0_ := Aside0.mk (blk_below (g := gb414) (o := .cells #[.int .i64 a0_0, .int .i64 a0_1] 23 (0, 0)) (bk_ BK414.out) hb); have n1_ := Aside0.mk (blk_below (g := gb415) (o := .cells #[.int .i64 a1_0, .int .i64 a1_1] 23 (0, 0)) (bk_ BK415.out) hb); have n2_ := Aside0.mk (below_step HB_ hb); clear BK414; clear BK415; clear HB; have BK414 := n0_; have BK415 := n1_; have HB := n2_; clear n0_ n1_ n2_; (try clear hb); (try clear hb2); (try clear hk); (try clear hi); have hcz112_0 : w111.cell? ⟨gb414, 0, none⟩ = some (.int .i64 a0_0) := (blk_cell BK414.out 0).trans rfl; have hcz112_1 : w111.cell? ⟨gb414, 1, none⟩ = some (.int .i64 a0_1) := (blk_cell BK414.out 1).trans rfl; have hfz112_0 := blk_frozen BK414.out 0; have hfz112_1 := blk_frozen BK414.out 1; (try clear A56)) | (go_at_call 14; (with_reducible refine (itv_Has.calls a0_0 a0_1 a3 true _ A99.out).mono ?_); rintro e w113 ⟨rfl, hb⟩; have n0_ := Aside0.mk (blk_below (g := gb414) (o := .cells #[.int .i64 a0_0, .int .i64 a0_1] 23 (0, 0)) (bk_ BK414.out) hb); have n1_ := Aside0.mk (blk_below (g := gb415) (o := .cells #[.int .i64 a1_0, .int .i64 a1_1] 23 (0, 0)) (bk_ BK415.out) hb); have n2_ := Aside0.mk (below_step HB_ hb); clear BK414; clear BK415; clear HB; have BK414 := n0_; have BK415 := n1_; have HB := n2_; clear n0_ n1_ n2_; (try clear hb); (try clear hb2); (try clear hk); (try clear hi); have hcz114_0 : w113.cell? ⟨gb414, 0, none⟩ = some (.int .i64 a0_0) := (blk_cell BK414.out 0).trans rfl; have hcz114_1 : w113.cell? ⟨gb414, 1, none⟩ = some (.int .i64 a0_1) := (blk_cell BK414.out 1).trans rfl; have hfz114_0 := blk_frozen BK414.out 0; have hfz114_1 := blk_frozen BK414.out 1; have hcz115_0 : w113.cell? ⟨gb415, 0, none⟩ = some (.int .i64 a1_0) := (blk_cell BK415.out 0).trans rfl; have hcz115_1 : w113.cell? ⟨gb415, 1, none⟩ = some (.int .i64 a1_1) := (blk_cell BK415.out 1).trans rfl; have hfz115_0 := blk_frozen BK415.out 0; have hfz115_1 := blk_frozen BK415.out 1; (try clear A99)) | (go_at_call 29; (with_reducible refine (itv_Widen.calls a0_0 a0_1 a1_0 a1_1 t449 t450 _ A101.out).mono ?_); rintro e w116 ⟨rfl, hb⟩; have n0_ := Aside0.mk (blk_below (g := gb414) (o := .cells #[.int .i64 a0_0, .int .i64 a0_1] 23 (0, 0)) (bk_ BK414.out) hb); have n1_ := Aside0.mk (blk_below (g := gb415) (o := .cells #[.int .i64 a1_0, .int .i64 a1_1] 23 (0, 0)) (bk_ BK415.out) hb); have n2_ := Aside0.mk (below_step HB_ hb); clear BK414; clear BK415; clear HB; have BK414 := n0_; have BK415 := n1_; have HB := n2_; clear n0_ n1_ n2_; (try clear hb); (try clear hb2); (try clear hk); (try clear hi)) | (go_at_call 14; (with_reducible refine (itv_Has.calls t449 t450 a3 t451 _ A102.out).mono ?_); rintro e w117 ⟨rfl, hb⟩; have n0_ := Aside0.mk (blk_below (g := gb414) (o := .cells #[.int .i64 a0_0, .int .i64 a0_1] 23 (0, 0)) (bk_ BK414.out) hb); have n1_ := Aside0.mk (blk_below (g := gb415) (o := .cells #[.int .i64 a1_0, .int .i64 a1_1] 23 (0, 0)) (bk_ BK415.out) hb); have n2_ := Aside0.mk (below_step HB_ hb); clear BK414; clear BK415; clear HB; have BK414 := n0_; have BK415 := n1_; have HB := n2_; clear n0_ n1_ n2_; (try clear hb); (try clear hb2); (try clear hk); (try clear hi)))
                  go_meet
                  case rel => exact ⟨_, (!t451), (by first | rfl | (simp; done) | (simp [*]; done)), H', ⟨by have := HJ5.out; first | omega | exact Nat.le_refl _⟩, ⟨by (with_reducible repeat (first | refine blk_drewN ?_ _ | refine blk_drew ?_ | refine blk_alloc ?_ _)); exact BK414.out⟩, ⟨by (with_reducible repeat (first | refine blk_drewN ?_ _ | refine blk_drew ?_ | refine blk_alloc ?_ _)); exact BK415.out⟩, ⟨by repeat (first | (with_reducible first | exact HB.out | apply below_alloc | apply pw_below_drewN | apply below_drew1 | refine below_set ?_ GE414.out | refine below_set ?_ GE415.out) | exact HB.out)⟩⟩
                · replace c100 := Bool.eq_false_iff.mpr c100
                  subst c100
                  have H1 : (warrantorlaw07_ItvSets.j1 kj5 a2 a3 a4 false a0_0 a0_1 a1_0 a1_1) = some r := by rw [if_neg (show ¬ (false = true) by decide)] at H; exact H
                  clear H
                  have H := H1
                  clear H1
                  have H' := Aside0.mk H
                  clear H
                  have hnb118 := NB414_415.out
                  have hnc118 := NB415_414.out
                  have hcz119_0 : wc.cell? ⟨gb414, 0, none⟩ = some (.int .i64 a0_0) := (blk_cell BK414.out 0).trans rfl
                  have hcz119_1 : wc.cell? ⟨gb414, 1, none⟩ = some (.int .i64 a0_1) := (blk_cell BK414.out 1).trans rfl
                  have hfz119_0 := blk_frozen BK414.out 0
                  have hfz119_1 := blk_frozen BK414.out 1
                  go_wp2_with (first | ((with_reducible refine gate_callee (f := 14) rfl ?_); refine goesL_ (some 44) rfl rfl Tryd.func14 (by kernel_rfl) rfl #[.agg #[.int .i64 a0_0, .int .i64 a0_1], .int .i64 a3] rfl MP_ ?_; (with_reducible refine (itv_Has.calls a0_0 a0_1 a3 true _ A51.out).mono ?_); rintro e w120 ⟨rfl, hb⟩; refine ⟨_, rfl, ?_⟩; have n0_ := Aside0.mk (blk_below (g := gb414) (o := .cells #[.int .i64 a0_0, .int .i64 a0_1] 23 (0, 0)) (bk_ BK414.out) hb); have n1_ := Aside0.mk (blk_below (g := gb415) (o := .cells #[.int .i64 a1_0, .int .i64 a1_1] 23 (0, 0)) (bk_ BK415.out) hb); have n2_ := Aside0.mk (below_step HB_ hb); clear BK414; clear BK415; clear HB; have BK414 := n0_; have BK415 := n1_; have HB := n2_; clear n0_ n1_ n2_; (try clear hb); (try clear hb2); (try clear hk); (try clear hi); have hcz121_0 : w120.cell? ⟨gb414, 0, none⟩ = some (.int .i64 a0_0) := (blk_cell BK414.out 0).trans rfl; have hcz121_1 : w120.cell? ⟨gb414, 1, none⟩ = some (.int .i64 a0_1) := (blk_cell BK414.out 1).trans rfl; have hfz121_0 := blk_frozen BK414.out 0; have hfz121_1 := blk_frozen BK414.out 1; have hcz122_0 : w120.cell? ⟨gb415, 0, none⟩ = some (.int .i64 a1_0) := (blk_cell BK415.out 0).trans rfl; have hcz122_1 : w120.cell? ⟨gb415, 1, none⟩ = some (.int .i64 a1_1) := (blk_cell BK415.out 1).trans rfl; have hfz122_0 := blk_frozen BK415.out 0; have hfz122_1 := blk_frozen BK415.out 1; (try clear A51)) | (go_at_call 19; (with_reducible refine (itv_Join.calls a0_0 a0_1 a1_0 a1_1 t437 t438 _ A53.out).mono ?_); rintro e w123 ⟨rfl, hb⟩; have n0_ := Aside0.mk (blk_below (g := gb414) (o := .cells #[.int .i64 a0_0, .int .i64 a0_1] 23 (0, 0)) (bk_ BK414.out) hb); have n1_ := Aside0.mk (blk_below (g := gb415) (o := .cells #[.int .i64 a1_0, .int .i64 a1_1] 23 (0, 0)) (bk_ BK415.out) hb); have n2_ := Aside0.mk (below_step HB_ hb); clear BK414; clear BK415; clear HB; have BK414 := n0_; have BK415 := n1_; have HB := n2_; clear n0_ n1_ n2_; (try clear hb); (try clear hb2); (try clear hk); (try clear hi)) | (go_at_call 14; (with_reducible refine (itv_Has.calls t437 t438 a3 true _ A54.out).mono ?_); rintro e w124 ⟨rfl, hb⟩; have n0_ := Aside0.mk (blk_below (g := gb414) (o := .cells #[.int .i64 a0_0, .int .i64 a0_1] 23 (0, 0)) (bk_ BK414.out) hb); have n1_ := Aside0.mk (blk_below (g := gb415) (o := .cells #[.int .i64 a1_0, .int .i64 a1_1] 23 (0, 0)) (bk_ BK415.out) hb); have n2_ := Aside0.mk (below_step HB_ hb); clear BK414; clear BK415; clear HB; have BK414 := n0_; have BK415 := n1_; have HB := n2_; clear n0_ n1_ n2_; (try clear hb); (try clear hb2); (try clear hk); (try clear hi); have hcz125_0 : w124.cell? ⟨gb415, 0, none⟩ = some (.int .i64 a1_0) := (blk_cell BK415.out 0).trans rfl; have hcz125_1 : w124.cell? ⟨gb415, 1, none⟩ = some (.int .i64 a1_1) := (blk_cell BK415.out 1).trans rfl; have hfz125_0 := blk_frozen BK415.out 0; have hfz125_1 := blk_frozen BK415.out 1; (try clear A54)) | (go_at_call 14; (with_reducible refine (itv_Has.calls a1_0 a1_1 a3 false _ A56.out).mono ?_); rintro e w126 ⟨rfl, hb⟩; have n0_ := Aside0.mk (blk_below (g := gb414) (o := .cells #[.int .i64 a0_0, .int .i64 a0_1] 23 (0, 0)) (bk_ BK414.out) hb); have n1_ := Aside0.mk (blk_below (g := gb415) (o := .cells #[.int .i64 a1_0, .int .i64 a1_1] 23 (0, 0)) (bk_ BK415.out) hb); have n2_ := Aside0.mk (below_step HB_ hb); clear BK414; clear BK415; clear HB; have BK414 := n0_; have BK415 := n1_; have HB := n2_; clear n0_ n1_ n2_; (try clear hb); (try clear hb2); (try clear hk); (try clear hi); have hcz127_0 : w126.cell? ⟨gb414, 0, none⟩ = some (.int .i64 a0_0) := (blk_cell BK414.out 0).trans rfl; have hcz127_1 : w126.cell? ⟨gb414, 1, none⟩ = some (.int .i64 a0_1) := (blk_cell BK414.out 1).trans rfl; have hfz127_0 := blk_frozen BK414.out 0; have hfz127_1 := blk_frozen BK414.out 1; (try clear A56)) | (go_at_call 14; (with_reducible refine (itv_Has.calls a0_0 a0_1 a3 false _ A99.out).mono ?_); rintro e w128 ⟨rfl, hb⟩; have n0_ := Aside0.mk (blk_below (g := gb414) (o := .cells #[.int .i64 a0_0, .int .i64 a0_1] 23 (0, 0)) (bk_ BK414.out) hb); have n1_ := Aside0.mk (blk_below (g := gb415) (o := .cells #[.int .i64 a1_0, .int .i64 a1_1] 23 (0, 0)) (bk_ BK415.out) hb); have n2_ := Aside0.mk (below_step HB_ hb); clear BK414; clear BK415; clear HB; have BK414 := n0_; have BK415 := n1_; have HB := n2_; clear n0_ n1_ n2_; (try clear hb); (try clear hb2); (try clear hk); (try clear hi)))
                  go_meet
                  case rel => exact ⟨_, (false), (by first | rfl | (simp; done) | (simp [*]; done)), H', ⟨by have := HJ5.out; first | omega | exact Nat.le_refl _⟩, ⟨by (with_reducible repeat (first | refine blk_drewN ?_ _ | refine blk_drew ?_ | refine blk_alloc ?_ _)); exact BK414.out⟩, ⟨by (with_reducible repeat (first | refine blk_drewN ?_ _ | refine blk_drew ?_ | refine blk_alloc ?_ _)); exact BK415.out⟩, ⟨by repeat (first | (with_reducible first | exact HB.out | apply below_alloc | apply pw_below_drewN | apply below_drew1 | refine below_set ?_ GE414.out | refine below_set ?_ GE415.out) | exact HB.out)⟩⟩
            · replace c55 := Bool.eq_false_iff.mpr c55
              subst c55
              have H1 : (none) = some r := by rw [if_neg (show ¬ (false = true) by decide)] at H; exact H
              clear H
              have H := H1
              clear H1
              exact absurd H (by simp)
          · replace c52 := Bool.eq_false_iff.mpr c52
            subst c52
            have H1 : ((itv_Has.f a1_0 a1_1 a3).bind fun t452 => (if t452 = true then ((itv_Widen.f a0_0 a0_1 a1_0 a1_1).bind fun bt453 => ((itv_Has.f bt453.1 bt453.2 a3).bind fun t455 => (if t455 = true then ((itv_Has.f a0_0 a0_1 a3).bind fun t456 => (if t456 = true then ((itv_Widen.f a0_0 a0_1 a1_0 a1_1).bind fun bt457 => ((itv_Has.f bt457.1 bt457.2 a3).bind fun t459 => (warrantorlaw07_ItvSets.j1 kj5 a2 a3 a4 (!t459) a0_0 a0_1 a1_0 a1_1))) else (warrantorlaw07_ItvSets.j1 kj5 a2 a3 a4 false a0_0 a0_1 a1_0 a1_1))) else (none)))) else ((itv_Has.f a0_0 a0_1 a3).bind fun t460 => (if t460 = true then ((itv_Widen.f a0_0 a0_1 a1_0 a1_1).bind fun bt461 => ((itv_Has.f bt461.1 bt461.2 a3).bind fun t463 => (warrantorlaw07_ItvSets.j1 kj5 a2 a3 a4 (!t463) a0_0 a0_1 a1_0 a1_1))) else (warrantorlaw07_ItvSets.j1 kj5 a2 a3 a4 false a0_0 a0_1 a1_0 a1_1))))) = some r := by rw [if_neg (show ¬ (false = true) by decide)] at H; exact H
            clear H
            have H := H1
            clear H1
            replace H := Option.bind_eq_some_iff.mp H
            obtain ⟨t452, A1290, H⟩ := H
            replace H : (if t452 = true then ((itv_Widen.f a0_0 a0_1 a1_0 a1_1).bind fun bt453 => ((itv_Has.f bt453.1 bt453.2 a3).bind fun t455 => (if t455 = true then ((itv_Has.f a0_0 a0_1 a3).bind fun t456 => (if t456 = true then ((itv_Widen.f a0_0 a0_1 a1_0 a1_1).bind fun bt457 => ((itv_Has.f bt457.1 bt457.2 a3).bind fun t459 => (warrantorlaw07_ItvSets.j1 kj5 a2 a3 a4 (!t459) a0_0 a0_1 a1_0 a1_1))) else (warrantorlaw07_ItvSets.j1 kj5 a2 a3 a4 false a0_0 a0_1 a1_0 a1_1))) else (none)))) else ((itv_Has.f a0_0 a0_1 a3).bind fun t460 => (if t460 = true then ((itv_Widen.f a0_0 a0_1 a1_0 a1_1).bind fun bt461 => ((itv_Has.f bt461.1 bt461.2 a3).bind fun t463 => (warrantorlaw07_ItvSets.j1 kj5 a2 a3 a4 (!t463) a0_0 a0_1 a1_0 a1_1))) else (warrantorlaw07_ItvSets.j1 kj5 a2 a3 a4 false a0_0 a0_1 a1_0 a1_1)))) = some r := H
            have A129 := Aside0.mk A1290
            clear A1290
            by_cases c130 : t452 = true
            · subst c130
              have H1 : ((itv_Widen.f a0_0 a0_1 a1_0 a1_1).bind fun bt453 => ((itv_Has.f bt453.1 bt453.2 a3).bind fun t455 => (if t455 = true then ((itv_Has.f a0_0 a0_1 a3).bind fun t456 => (if t456 = true then ((itv_Widen.f a0_0 a0_1 a1_0 a1_1).bind fun bt457 => ((itv_Has.f bt457.1 bt457.2 a3).bind fun t459 => (warrantorlaw07_ItvSets.j1 kj5 a2 a3 a4 (!t459) a0_0 a0_1 a1_0 a1_1))) else (warrantorlaw07_ItvSets.j1 kj5 a2 a3 a4 false a0_0 a0_1 a1_0 a1_1))) else (none)))) = some r := by rw [if_pos rfl] at H; exact H
              clear H
              have H := H1
              clear H1
              replace H := Option.bind_eq_some_iff.mp H
              obtain ⟨⟨t453, t454⟩, A1310, H⟩ := H
              replace H : ((itv_Has.f t453 t454 a3).bind fun t455 => (if t455 = true then ((itv_Has.f a0_0 a0_1 a3).bind fun t456 => (if t456 = true then ((itv_Widen.f a0_0 a0_1 a1_0 a1_1).bind fun bt457 => ((itv_Has.f bt457.1 bt457.2 a3).bind fun t459 => (warrantorlaw07_ItvSets.j1 kj5 a2 a3 a4 (!t459) a0_0 a0_1 a1_0 a1_1))) else (warrantorlaw07_ItvSets.j1 kj5 a2 a3 a4 false a0_0 a0_1 a1_0 a1_1))) else (none))) = some r := H
              have A131 := Aside0.mk A1310
              clear A1310
              replace H := Option.bind_eq_some_iff.mp H
              obtain ⟨t455, A1320, H⟩ := H
              replace H : (if t455 = true then ((itv_Has.f a0_0 a0_1 a3).bind fun t456 => (if t456 = true then ((itv_Widen.f a0_0 a0_1 a1_0 a1_1).bind fun bt457 => ((itv_Has.f bt457.1 bt457.2 a3).bind fun t459 => (warrantorlaw07_ItvSets.j1 kj5 a2 a3 a4 (!t459) a0_0 a0_1 a1_0 a1_1))) else (warrantorlaw07_ItvSets.j1 kj5 a2 a3 a4 false a0_0 a0_1 a1_0 a1_1))) else (none)) = some r := H
              have A132 := Aside0.mk A1320
              clear A1320
              by_cases c133 : t455 = true
              · subst c133
                have H1 : ((itv_Has.f a0_0 a0_1 a3).bind fun t456 => (if t456 = true then ((itv_Widen.f a0_0 a0_1 a1_0 a1_1).bind fun bt457 => ((itv_Has.f bt457.1 bt457.2 a3).bind fun t459 => (warrantorlaw07_ItvSets.j1 kj5 a2 a3 a4 (!t459) a0_0 a0_1 a1_0 a1_1))) else (warrantorlaw07_ItvSets.j1 kj5 a2 a3 a4 false a0_0 a0_1 a1_0 a1_1))) = some r := by rw [if_pos rfl] at H; exact H
                clear H
                have H := H1
                clear H1
                replace H := Option.bind_eq_some_iff.mp H
                obtain ⟨t456, A1340, H⟩ := H
                replace H : (if t456 = true then ((itv_Widen.f a0_0 a0_1 a1_0 a1_1).bind fun bt457 => ((itv_Has.f bt457.1 bt457.2 a3).bind fun t459 => (warrantorlaw07_ItvSets.j1 kj5 a2 a3 a4 (!t459) a0_0 a0_1 a1_0 a1_1))) else (warrantorlaw07_ItvSets.j1 kj5 a2 a3 a4 false a0_0 a0_1 a1_0 a1_1)) = some r := H
                have A134 := Aside0.mk A1340
                clear A1340
                by_cases c135 : t456 = true
                · subst c135
                  have H1 : ((itv_Widen.f a0_0 a0_1 a1_0 a1_1).bind fun bt457 => ((itv_Has.f bt457.1 bt457.2 a3).bind fun t459 => (warrantorlaw07_ItvSets.j1 kj5 a2 a3 a4 (!t459) a0_0 a0_1 a1_0 a1_1))) = some r := by rw [if_pos rfl] at H; exact H
                  clear H
                  have H := H1
                  clear H1
                  replace H := Option.bind_eq_some_iff.mp H
                  obtain ⟨⟨t457, t458⟩, A1360, H⟩ := H
                  replace H : ((itv_Has.f t457 t458 a3).bind fun t459 => (warrantorlaw07_ItvSets.j1 kj5 a2 a3 a4 (!t459) a0_0 a0_1 a1_0 a1_1)) = some r := H
                  have A136 := Aside0.mk A1360
                  clear A1360
                  replace H := Option.bind_eq_some_iff.mp H
                  obtain ⟨t459, A1370, H⟩ := H
                  replace H : (warrantorlaw07_ItvSets.j1 kj5 a2 a3 a4 (!t459) a0_0 a0_1 a1_0 a1_1) = some r := H
                  have A137 := Aside0.mk A1370
                  clear A1370
                  have H' := Aside0.mk H
                  clear H
                  have hnb138 := NB414_415.out
                  have hnc138 := NB415_414.out
                  have hcz139_0 : wc.cell? ⟨gb414, 0, none⟩ = some (.int .i64 a0_0) := (blk_cell BK414.out 0).trans rfl
                  have hcz139_1 : wc.cell? ⟨gb414, 1, none⟩ = some (.int .i64 a0_1) := (blk_cell BK414.out 1).trans rfl
                  have hfz139_0 := blk_frozen BK414.out 0
                  have hfz139_1 := blk_frozen BK414.out 1
                  go_wp2_with (first | ((with_reducible refine gate_callee (f := 14) rfl ?_); refine goesL_ (some 44) rfl rfl Tryd.func14 (by kernel_rfl) rfl #[.agg #[.int .i64 a0_0, .int .i64 a0_1], .int .i64 a3] rfl MP_ ?_; (with_reducible refine (itv_Has.calls a0_0 a0_1 a3 false _ A51.out).mono ?_); rintro e w140 ⟨rfl, hb⟩; refine ⟨_, rfl, ?_⟩; have n0_ := Aside0.mk (blk_below (g := gb414) (o := .cells #[.int .i64 a0_0, .int .i64 a0_1] 23 (0, 0)) (bk_ BK414.out) hb); have n1_ := Aside0.mk (blk_below (g := gb415) (o := .cells #[.int .i64 a1_0, .int .i64 a1_1] 23 (0, 0)) (bk_ BK415.out) hb); have n2_ := Aside0.mk (below_step HB_ hb); clear BK414; clear BK415; clear HB; have BK414 := n0_; have BK415 := n1_; have HB := n2_; clear n0_ n1_ n2_; (try clear hb); (try clear hb2); (try clear hk); (try clear hi); have hcz141_0 : w140.cell? ⟨gb415, 0, none⟩ = some (.int .i64 a1_0) := (blk_cell BK415.out 0).trans rfl; have hcz141_1 : w140.cell? ⟨gb415, 1, none⟩ = some (.int .i64 a1_1) := (blk_cell BK415.out 1).trans rfl; have hfz141_0 := blk_frozen BK415.out 0; have hfz141_1 := blk_frozen BK415.out 1; (try clear A51)) | (go_at_call 14; (with_reducible refine (itv_Has.calls a1_0 a1_1 a3 true _ A129.out).mono ?_); rintro e w142 ⟨rfl, hb⟩; have n0_ := Aside0.mk (blk_below (g := gb414) (o := .cells #[.int .i64 a0_0, .int .i64 a0_1] 23 (0, 0)) (bk_ BK414.out) hb); have n1_ := Aside0.mk (blk_below (g := gb415) (o := .cells #[.int .i64 a1_0, .int .i64 a1_1] 23 (0, 0)) (bk_ BK415.out) hb); have n2_ := Aside0.mk (below_step HB_ hb); clear BK414; clear BK415; clear HB; have BK414 := n0_; have BK415 := n1_; have HB := n2_; clear n0_ n1_ n2_; (try clear hb); (try clear hb2); (try clear hk); (try clear hi); have hcz143_0 : w142.cell? ⟨gb414, 0, none⟩ = some (.int .i64 a0_0) := (blk_cell BK414.out 0).trans rfl; have hcz143_1 : w142.cell? ⟨gb414, 1, none⟩ = some (.int .i64 a0_1) := (blk_cell BK414.out 1).trans rfl; have hfz143_0 := blk_frozen BK414.out 0; have hfz143_1 := blk_frozen BK414.out 1; have hcz144_0 : w142.cell? ⟨gb415, 0, none⟩ = some (.int .i64 a1_0) := (blk_cell BK415.out 0).trans rfl; have hcz144_1 : w142.cell? ⟨gb415, 1, none⟩ = some (.int .i64 a1_1) := (blk_cell BK415.out 1).trans rfl; have hfz144_0 := blk_frozen BK415.out 0; have hfz144_1 := blk_frozen BK415.out 1; (try clear A129)) | (go_at_call 29; (with_reducible refine (itv_Widen.calls a0_0 a0_1 a1_0 a1_1 t453 t454 _ A131.out).mono ?_); rintro e w145 ⟨rfl, hb⟩; have n0_ := Aside0.mk (blk_below (g := gb414) (o := .cells #[.int .i64 a0_0, .int .i64 a0_1] 23 (0, 0)) (bk_ BK414.out) hb); have n1_ := Aside0.mk (blk_below (g := gb415) (o := .cells #[.int .i64 a1_0, .int .i64 a1_1] 23 (0, 0)) (bk_ BK415.out) hb); have n2_ := Aside0.mk (below_step HB_ hb); clear BK414; clear BK415; clear HB; have BK414 := n0_; have BK415 := n1_; have HB := n2_; clear n0_ n1_ n2_; (try clear hb); (try clear hb2); (try clear hk); (try clear hi); (try clear A131)) | (go_at_call 14; (with_reducible refine (itv_Has.calls t453 t454 a3 true _ A132.out).mono ?_); rintro e w146 ⟨rfl, hb⟩; have n0_ := Aside0.mk (blk_below (g := gb414) (o := .cells #[.int .i64 a0_0, .int .i64 a0_1] 23 (0, 0)) (bk_ BK414.out) hb); have n1_ := Aside0.mk (blk_below (g := gb415) (o := .cells #[.int .i64 a1_0, .int .i64 a1_1] 23 (0, 0)) (bk_ BK415.out) hb); have n2_ := Aside0.mk (below_step HB_ hb); clear BK414; clear BK415; clear HB; have BK414 := n0_; have BK415 := n1_; have HB := n2_; clear n0_ n1_ n2_; (try clear hb); (try clear hb2); (try clear hk); (try clear hi); have hcz147_0 : w146.cell? ⟨gb414, 0, none⟩ = some (.int .i64 a0_0) := (blk_cell BK414.out 0).trans rfl; have hcz147_1 : w146.cell? ⟨gb414, 1, none⟩ = some (.int .i64 a0_1) := (blk_cell BK414.out 1).trans rfl; have hfz147_0 := blk_frozen BK414.out 0; have hfz147_1 := blk_frozen BK414.out 1; (try clear A132)) | (go_at_call 14; (with_reducible refine (itv_Has.calls a0_0 a0_1 a3 true _ A134.out).mono ?_); rintro e w148 ⟨rfl, hb⟩; have n0_ := Aside0.mk (blk_below (g := gb414) (o := .cells #[.int .i64 a0_0, .int .i64 a0_1] 23 (0, 0)) (bk_ BK414.out) hb); have n1_ := Aside0.mk (blk_below (g := gb415) (o := .cells #[.int .i64 a1_0, .int .i64 a1_1] 23 (0, 0)) (bk_ BK415.out) hb); have n2_ := Aside0.mk (below_step HB_ hb); clear BK414; clear BK415; clear HB; have BK414 := n0_; have BK415 := n1_; have HB := n2_; clear n0_ n1_ n2_; (try clear hb); (try clear hb2); (try clear hk); (try clear hi); have hcz149_0 : w148.cell? ⟨gb414, 0, none⟩ = some (.int .i64 a0_0) := (blk_cell BK414.out 0).trans rfl; have hcz149_1 : w148.cell? ⟨gb414, 1, none⟩ = some (.int .i64 a0_1) := (blk_cell BK414.out 1).trans rfl; have hfz149_0 := blk_frozen BK414.out 0; have hfz149_1 := blk_frozen BK414.out 1; have hcz150_0 : w148.cell? ⟨gb415, 0, none⟩ = some (.int .i64 a1_0) := (blk_cell BK415.out 0).trans rfl; have hcz150_1 : w148.cell? ⟨gb415, 1, none⟩ = some (.int .i64 a1_1) := (blk_cell BK415.out 1).trans rfl; have hfz150_0 := blk_frozen BK415.out 0; have hfz150_1 := blk_frozen BK415.out 1; (try clear A134)) | (go_at_call 29; (with_reducible refine (itv_Widen.calls a0_0 a0_1 a1_0 a1_1 t457 t458 _ A136.out).mono ?_); rintro e w151 ⟨rfl, hb⟩; have n0_ := Aside0.mk (blk_below (g := gb414) (o := .cells #[.int .i64 a0_0, .int .i64 a0_1] 23 (0, 0)) (bk_ BK414.out) hb); have n1_ := Aside0.mk (blk_below (g := gb415) (o := .cells #[.int .i64 a1_0, .int .i64 a1_1] 23 (0, 0)) (bk_ BK415.out) hb); have n2_ := Aside0.mk (below_step HB_ hb); clear BK414; clear BK415; clear HB; have BK414 := n0_; have BK415 := n1_; have HB := n2_; clear n0_ n1_ n2_; (try clear hb); (try clear hb2); (try clear hk); (try clear hi)) | (go_at_call 14; (with_reducible refine (itv_Has.calls t457 t458 a3 t459 _ A137.out).mono ?_); rintro e w152 ⟨rfl, hb⟩; have n0_ := Aside0.mk (blk_below (g := gb414) (o := .cells #[.int .i64 a0_0, .int .i64 a0_1] 23 (0, 0)) (bk_ BK414.out) hb); have n1_ := Aside0.mk (blk_below (g := gb415) (o := .cells #[.int .i64 a1_0, .int .i64 a1_1] 23 (0, 0)) (bk_ BK415.out) hb); have n2_ := Aside0.mk (below_step HB_ hb); clear BK414; clear BK415; clear HB; have BK414 := n0_; have BK415 := n1_; have HB := n2_; clear n0_ n1_ n2_; (try clear hb); (try clear hb2); (try clear hk); (try clear hi)))
                  go_meet
                  case rel => exact ⟨_, (!t459), (by first | rfl | (simp; done) | (simp [*]; done)), H', ⟨by have := HJ5.out; first | omega | exact Nat.le_refl _⟩, ⟨by (with_reducible repeat (first | refine blk_drewN ?_ _ | refine blk_drew ?_ | refine blk_alloc ?_ _)); exact BK414.out⟩, ⟨by (with_reducible repeat (first | refine blk_drewN ?_ _ | refine blk_drew ?_ | refine blk_alloc ?_ _)); exact BK415.out⟩, ⟨by repeat (first | (with_reducible first | exact HB.out | apply below_alloc | apply pw_below_drewN | apply below_drew1 | refine below_set ?_ GE414.out | refine below_set ?_ GE415.out) | exact HB.out)⟩⟩
                · replace c135 := Bool.eq_false_iff.mpr c135
                  subst c135
                  have H1 : (warrantorlaw07_ItvSets.j1 kj5 a2 a3 a4 false a0_0 a0_1 a1_0 a1_1) = some r := by rw [if_neg (show ¬ (false = true) by decide)] at H; exact H
                  clear H
                  have H := H1
                  clear H1
                  have H' := Aside0.mk H
                  clear H
                  have hnb153 := NB414_415.out
                  have hnc153 := NB415_414.out
                  have hcz154_0 : wc.cell? ⟨gb414, 0, none⟩ = some (.int .i64 a0_0) := (blk_cell BK414.out 0).trans rfl
                  have hcz154_1 : wc.cell? ⟨gb414, 1, none⟩ = some (.int .i64 a0_1) := (blk_cell BK414.out 1).trans rfl
                  have hfz154_0 := blk_frozen BK414.out 0
                  have hfz154_1 := blk_frozen BK414.out 1
                  go_wp2_with (first | ((with_reducible refine gate_callee (f := 14) rfl ?_); refine goesL_ (some 44) rfl rfl Tryd.func14 (by kernel_rfl) rfl #[.agg #[.int .i64 a0_0, .int .i64 a0_1], .int .i64 a3] rfl MP_ ?_; (with_reducible refine (itv_Has.calls a0_0 a0_1 a3 false _ A51.out).mono ?_); rintro e w155 ⟨rfl, hb⟩; refine ⟨_, rfl, ?_⟩; have n0_ := Aside0.mk (blk_below (g := gb414) (o := .cells #[.int .i64 a0_0, .int .i64 a0_1] 23 (0, 0)) (bk_ BK414.out) hb); have n1_ := Aside0.mk (blk_below (g := gb415) (o := .cells #[.int .i64 a1_0, .int .i64 a1_1] 23 (0, 0)) (bk_ BK415.out) hb); have n2_ := Aside0.mk (below_step HB_ hb); clear BK414; clear BK415; clear HB; have BK414 := n0_; have BK415 := n1_; have HB := n2_; clear n0_ n1_ n2_; (try clear hb); (try clear hb2); (try clear hk); (try clear hi); have hcz156_0 : w155.cell? ⟨gb415, 0, none⟩ = some (.int .i64 a1_0) := (blk_cell BK415.out 0).trans rfl; have hcz156_1 : w155.cell? ⟨gb415, 1, none⟩ = some (.int .i64 a1_1) := (blk_cell BK415.out 1).trans rfl; have hfz156_0 := blk_frozen BK415.out 0; have hfz156_1 := blk_frozen BK415.out 1; (try clear A51)) | (go_at_call 14; (with_reducible refine (itv_Has.calls a1_0 a1_1 a3 true _ A129.out).mono ?_); rintro e w157 ⟨rfl, hb⟩; have n0_ := Aside0.mk (blk_below (g := gb414) (o := .cells #[.int .i64 a0_0, .int .i64 a0_1] 23 (0, 0)) (bk_ BK414.out) hb); have n1_ := Aside0.mk (blk_below (g := gb415) (o := .cells #[.int .i64 a1_0, .int .i64 a1_1] 23 (0, 0)) (bk_ BK415.out) hb); have n2_ := Aside0.mk (below_step HB_ hb); clear BK414; clear BK415; clear HB; have BK414 := n0_; have BK415 := n1_; have HB := n2_; clear n0_ n1_ n2_; (try clear hb); (try clear hb2); (try clear hk); (try clear hi); have hcz158_0 : w157.cell? ⟨gb414, 0, none⟩ = some (.int .i64 a0_0) := (blk_cell BK414.out 0).trans rfl; have hcz158_1 : w157.cell? ⟨gb414, 1, none⟩ = some (.int .i64 a0_1) := (blk_cell BK414.out 1).trans rfl; have hfz158_0 := blk_frozen BK414.out 0; have hfz158_1 := blk_frozen BK414.out 1; have hcz159_0 : w157.cell? ⟨gb415, 0, none⟩ = some (.int .i64 a1_0) := (blk_cell BK415.out 0).trans rfl; have hcz159_1 : w157.cell? ⟨gb415, 1, none⟩ = some (.int .i64 a1_1) := (blk_cell BK415.out 1).trans rfl; have hfz159_0 := blk_frozen BK415.out 0; have hfz159_1 := blk_frozen BK415.out 1; (try clear A129)) | (go_at_call 29; (with_reducible refine (itv_Widen.calls a0_0 a0_1 a1_0 a1_1 t453 t454 _ A131.out).mono ?_); rintro e w160 ⟨rfl, hb⟩; have n0_ := Aside0.mk (blk_below (g := gb414) (o := .cells #[.int .i64 a0_0, .int .i64 a0_1] 23 (0, 0)) (bk_ BK414.out) hb); have n1_ := Aside0.mk (blk_below (g := gb415) (o := .cells #[.int .i64 a1_0, .int .i64 a1_1] 23 (0, 0)) (bk_ BK415.out) hb); have n2_ := Aside0.mk (below_step HB_ hb); clear BK414; clear BK415; clear HB; have BK414 := n0_; have BK415 := n1_; have HB := n2_; clear n0_ n1_ n2_; (try clear hb); (try clear hb2); (try clear hk); (try clear hi)) | (go_at_call 14; (with_reducible refine (itv_Has.calls t453 t454 a3 true _ A132.out).mono ?_); rintro e w161 ⟨rfl, hb⟩; have n0_ := Aside0.mk (blk_below (g := gb414) (o := .cells #[.int .i64 a0_0, .int .i64 a0_1] 23 (0, 0)) (bk_ BK414.out) hb); have n1_ := Aside0.mk (blk_below (g := gb415) (o := .cells #[.int .i64 a1_0, .int .i64 a1_1] 23 (0, 0)) (bk_ BK415.out) hb); have n2_ := Aside0.mk (below_step HB_ hb); clear BK414; clear BK415; clear HB; have BK414 := n0_; have BK415 := n1_; have HB := n2_; clear n0_ n1_ n2_; (try clear hb); (try clear hb2); (try clear hk); (try clear hi); have hcz162_0 : w161.cell? ⟨gb414, 0, none⟩ = some (.int .i64 a0_0) := (blk_cell BK414.out 0).trans rfl; have hcz162_1 : w161.cell? ⟨gb414, 1, none⟩ = some (.int .i64 a0_1) := (blk_cell BK414.out 1).trans rfl; have hfz162_0 := blk_frozen BK414.out 0; have hfz162_1 := blk_frozen BK414.out 1; (try clear A132)) | (go_at_call 14; (with_reducible refine (itv_Has.calls a0_0 a0_1 a3 false _ A134.out).mono ?_); rintro e w163 ⟨rfl, hb⟩; have n0_ := Aside0.mk (blk_below (g := gb414) (o := .cells #[.int .i64 a0_0, .int .i64 a0_1] 23 (0, 0)) (bk_ BK414.out) hb); have n1_ := Aside0.mk (blk_below (g := gb415) (o := .cells #[.int .i64 a1_0, .int .i64 a1_1] 23 (0, 0)) (bk_ BK415.out) hb); have n2_ := Aside0.mk (below_step HB_ hb); clear BK414; clear BK415; clear HB; have BK414 := n0_; have BK415 := n1_; have HB := n2_; clear n0_ n1_ n2_; (try clear hb); (try clear hb2); (try clear hk); (try clear hi)))
                  go_meet
                  case rel => exact ⟨_, (false), (by first | rfl | (simp; done) | (simp [*]; done)), H', ⟨by have := HJ5.out; first | omega | exact Nat.le_refl _⟩, ⟨by (with_reducible repeat (first | refine blk_drewN ?_ _ | refine blk_drew ?_ | refine blk_alloc ?_ _)); exact BK414.out⟩, ⟨by (with_reducible repeat (first | refine blk_drewN ?_ _ | refine blk_drew ?_ | refine blk_alloc ?_ _)); exact BK415.out⟩, ⟨by repeat (first | (with_reducible first | exact HB.out | apply below_alloc | apply pw_below_drewN | apply below_drew1 | refine below_set ?_ GE414.out | refine below_set ?_ GE415.out) | exact HB.out)⟩⟩
              · replace c133 := Bool.eq_false_iff.mpr c133
                subst c133
                have H1 : (none) = some r := by rw [if_neg (show ¬ (false = true) by decide)] at H; exact H
                clear H
                have H := H1
                clear H1
                exact absurd H (by simp)
            · replace c130 := Bool.eq_false_iff.mpr c130
              subst c130
              have H1 : ((itv_Has.f a0_0 a0_1 a3).bind fun t460 => (if t460 = true then ((itv_Widen.f a0_0 a0_1 a1_0 a1_1).bind fun bt461 => ((itv_Has.f bt461.1 bt461.2 a3).bind fun t463 => (warrantorlaw07_ItvSets.j1 kj5 a2 a3 a4 (!t463) a0_0 a0_1 a1_0 a1_1))) else (warrantorlaw07_ItvSets.j1 kj5 a2 a3 a4 false a0_0 a0_1 a1_0 a1_1))) = some r := by rw [if_neg (show ¬ (false = true) by decide)] at H; exact H
              clear H
              have H := H1
              clear H1
              replace H := Option.bind_eq_some_iff.mp H
              obtain ⟨t460, A1640, H⟩ := H
              replace H : (if t460 = true then ((itv_Widen.f a0_0 a0_1 a1_0 a1_1).bind fun bt461 => ((itv_Has.f bt461.1 bt461.2 a3).bind fun t463 => (warrantorlaw07_ItvSets.j1 kj5 a2 a3 a4 (!t463) a0_0 a0_1 a1_0 a1_1))) else (warrantorlaw07_ItvSets.j1 kj5 a2 a3 a4 false a0_0 a0_1 a1_0 a1_1)) = some r := H
              have A164 := Aside0.mk A1640
              clear A1640
              by_cases c165 : t460 = true
              · subst c165
                have H1 : ((itv_Widen.f a0_0 a0_1 a1_0 a1_1).bind fun bt461 => ((itv_Has.f bt461.1 bt461.2 a3).bind fun t463 => (warrantorlaw07_ItvSets.j1 kj5 a2 a3 a4 (!t463) a0_0 a0_1 a1_0 a1_1))) = some r := by rw [if_pos rfl] at H; exact H
                clear H
                have H := H1
                clear H1
                replace H := Option.bind_eq_some_iff.mp H
                obtain ⟨⟨t461, t462⟩, A1660, H⟩ := H
                replace H : ((itv_Has.f t461 t462 a3).bind fun t463 => (warrantorlaw07_ItvSets.j1 kj5 a2 a3 a4 (!t463) a0_0 a0_1 a1_0 a1_1)) = some r := H
                have A166 := Aside0.mk A1660
                clear A1660
                replace H := Option.bind_eq_some_iff.mp H
                obtain ⟨t463, A1670, H⟩ := H
                replace H : (warrantorlaw07_ItvSets.j1 kj5 a2 a3 a4 (!t463) a0_0 a0_1 a1_0 a1_1) = some r := H
                have A167 := Aside0.mk A1670
                clear A1670
                have H' := Aside0.mk H
                clear H
                have hnb168 := NB414_415.out
                have hnc168 := NB415_414.out
                have hcz169_0 : wc.cell? ⟨gb414, 0, none⟩ = some (.int .i64 a0_0) := (blk_cell BK414.out 0).trans rfl
                have hcz169_1 : wc.cell? ⟨gb414, 1, none⟩ = some (.int .i64 a0_1) := (blk_cell BK414.out 1).trans rfl
                have hfz169_0 := blk_frozen BK414.out 0
                have hfz169_1 := blk_frozen BK414.out 1
                go_wp2_with (first | ((with_reducible refine gate_callee (f := 14) rfl ?_); refine goesL_ (some 44) rfl rfl Tryd.func14 (by kernel_rfl) rfl #[.agg #[.int .i64 a0_0, .int .i64 a0_1], .int .i64 a3] rfl MP_ ?_; (with_reducible refine (itv_Has.calls a0_0 a0_1 a3 false _ A51.out).mono ?_); rintro e w170 ⟨rfl, hb⟩; refine ⟨_, rfl, ?_⟩; have n0_ := Aside0.mk (blk_below (g := gb414) (o := .cells #[.int .i64 a0_0, .int .i64 a0_1] 23 (0, 0)) (bk_ BK414.out) hb); have n1_ := Aside0.mk (blk_below (g := gb415) (o := .cells #[.int .i64 a1_0, .int .i64 a1_1] 23 (0, 0)) (bk_ BK415.out) hb); have n2_ := Aside0.mk (below_step HB_ hb); clear BK414; clear BK415; clear HB; have BK414 := n0_; have BK415 := n1_; have HB := n2_; clear n0_ n1_ n2_; (try clear hb); (try clear hb2); (try clear hk); (try clear hi); have hcz171_0 : w170.cell? ⟨gb415, 0, none⟩ = some (.int .i64 a1_0) := (blk_cell BK415.out 0).trans rfl; have hcz171_1 : w170.cell? ⟨gb415, 1, none⟩ = some (.int .i64 a1_1) := (blk_cell BK415.out 1).trans rfl; have hfz171_0 := blk_frozen BK415.out 0; have hfz171_1 := blk_frozen BK415.out 1; (try clear A51)) | (go_at_call 14; (with_reducible refine (itv_Has.calls a1_0 a1_1 a3 false _ A129.out).mono ?_); rintro e w172 ⟨rfl, hb⟩; have n0_ := Aside0.mk (blk_below (g := gb414) (o := .cells #[.int .i64 a0_0, .int .i64 a0_1] 23 (0, 0)) (bk_ BK414.out) hb); have n1_ := Aside0.mk (blk_below (g := gb415) (o := .cells #[.int .i64 a1_0, .int .i64 a1_1] 23 (0, 0)) (bk_ BK415.out) hb); have n2_ := Aside0.mk (below_step HB_ hb); clear BK414; clear BK415; clear HB; have BK414 := n0_; have BK415 := n1_; have HB := n2_; clear n0_ n1_ n2_; (try clear hb); (try clear hb2); (try clear hk); (try clear hi); have hcz173_0 : w172.cell? ⟨gb414, 0, none⟩ = some (.int .i64 a0_0) := (blk_cell BK414.out 0).trans rfl; have hcz173_1 : w172.cell? ⟨gb414, 1, none⟩ = some (.int .i64 a0_1) := (blk_cell BK414.out 1).trans rfl; have hfz173_0 := blk_frozen BK414.out 0; have hfz173_1 := blk_frozen BK414.out 1; (try clear A129)) | (go_at_call 14; (with_reducible refine (itv_Has.calls a0_0 a0_1 a3 true _ A164.out).mono ?_); rintro e w174 ⟨rfl, hb⟩; have n0_ := Aside0.mk (blk_below (g := gb414) (o := .cells #[.int .i64 a0_0, .int .i64 a0_1] 23 (0, 0)) (bk_ BK414.out) hb); have n1_ := Aside0.mk (blk_below (g := gb415) (o := .cells #[.int .i64 a1_0, .int .i64 a1_1] 23 (0, 0)) (bk_ BK415.out) hb); have n2_ := Aside0.mk (below_step HB_ hb); clear BK414; clear BK415; clear HB; have BK414 := n0_; have BK415 := n1_; have HB := n2_; clear n0_ n1_ n2_; (try clear hb); (try clear hb2); (try clear hk); (try clear hi); have hcz175_0 : w174.cell? ⟨gb414, 0, none⟩ = some (.int .i64 a0_0) := (blk_cell BK414.out 0).trans rfl; have hcz175_1 : w174.cell? ⟨gb414, 1, none⟩ = some (.int .i64 a0_1) := (blk_cell BK414.out 1).trans rfl; have hfz175_0 := blk_frozen BK414.out 0; have hfz175_1 := blk_frozen BK414.out 1; have hcz176_0 : w174.cell? ⟨gb415, 0, none⟩ = some (.int .i64 a1_0) := (blk_cell BK415.out 0).trans rfl; have hcz176_1 : w174.cell? ⟨gb415, 1, none⟩ = some (.int .i64 a1_1) := (blk_cell BK415.out 1).trans rfl; have hfz176_0 := blk_frozen BK415.out 0; have hfz176_1 := blk_frozen BK415.out 1; (try clear A164)) | (go_at_call 29; (with_reducible refine (itv_Widen.calls a0_0 a0_1 a1_0 a1_1 t461 t462 _ A166.out).mono ?_); rintro e w177 ⟨rfl, hb⟩; have n0_ := Aside0.mk (blk_below (g := gb414) (o := .cells #[.int .i64 a0_0, .int .i64 a0_1] 23 (0, 0)) (bk_ BK414.out) hb); have n1_ := Aside0.mk (blk_below (g := gb415) (o := .cells #[.int .i64 a1_0, .int .i64 a1_1] 23 (0, 0)) (bk_ BK415.out) hb); have n2_ := Aside0.mk (below_step HB_ hb); clear BK414; clear BK415; clear HB; have BK414 := n0_; have BK415 := n1_; have HB := n2_; clear n0_ n1_ n2_; (try clear hb); (try clear hb2); (try clear hk); (try clear hi)) | (go_at_call 14; (with_reducible refine (itv_Has.calls t461 t462 a3 t463 _ A167.out).mono ?_); rintro e w178 ⟨rfl, hb⟩; have n0_ := Aside0.mk (blk_below (g := gb414) (o := .cells #[.int .i64 a0_0, .int .i64 a0_1] 23 (0, 0)) (bk_ BK414.out) hb); have n1_ := Aside0.mk (blk_below (g := gb415) (o := .cells #[.int .i64 a1_0, .int .i64 a1_1] 23 (0, 0)) (bk_ BK415.out) hb); have n2_ := Aside0.mk (below_step HB_ hb); clear BK414; clear BK415; clear HB; have BK414 := n0_; have BK415 := n1_; have HB := n2_; clear n0_ n1_ n2_; (try clear hb); (try clear hb2); (try clear hk); (try clear hi)))
                go_meet
                case rel => exact ⟨_, (!t463), (by first | rfl | (simp; done) | (simp [*]; done)), H', ⟨by have := HJ5.out; first | omega | exact Nat.le_refl _⟩, ⟨by (with_reducible repeat (first | refine blk_drewN ?_ _ | refine blk_drew ?_ | refine blk_alloc ?_ _)); exact BK414.out⟩, ⟨by (with_reducible repeat (first | refine blk_drewN ?_ _ | refine blk_drew ?_ | refine blk_alloc ?_ _)); exact BK415.out⟩, ⟨by repeat (first | (with_reducible first | exact HB.out | apply below_alloc | apply pw_below_drewN | apply below_drew1 | refine below_set ?_ GE414.out | refine below_set ?_ GE415.out) | exact HB.out)⟩⟩
              · replace c165 := Bool.eq_false_iff.mpr c165
                subst c165
                have H1 : (warrantorlaw07_ItvSets.j1 kj5 a2 a3 a4 false a0_0 a0_1 a1_0 a1_1) = some r := by rw [if_neg (show ¬ (false = true) by decide)] at H; exact H
                clear H
                have H := H1
                clear H1
                have H' := Aside0.mk H
                clear H
                have hnb179 := NB414_415.out
                have hnc179 := NB415_414.out
                have hcz180_0 : wc.cell? ⟨gb414, 0, none⟩ = some (.int .i64 a0_0) := (blk_cell BK414.out 0).trans rfl
                have hcz180_1 : wc.cell? ⟨gb414, 1, none⟩ = some (.int .i64 a0_1) := (blk_cell BK414.out 1).trans rfl
                have hfz180_0 := blk_frozen BK414.out 0
                have hfz180_1 := blk_frozen BK414.out 1
                go_wp2_with (first | ((with_reducible refine gate_callee (f := 14) rfl ?_); refine goesL_ (some 44) rfl rfl Tryd.func14 (by kernel_rfl) rfl #[.agg #[.int .i64 a0_0, .int .i64 a0_1], .int .i64 a3] rfl MP_ ?_; (with_reducible refine (itv_Has.calls a0_0 a0_1 a3 false _ A51.out).mono ?_); rintro e w181 ⟨rfl, hb⟩; refine ⟨_, rfl, ?_⟩; have n0_ := Aside0.mk (blk_below (g := gb414) (o := .cells #[.int .i64 a0_0, .int .i64 a0_1] 23 (0, 0)) (bk_ BK414.out) hb); have n1_ := Aside0.mk (blk_below (g := gb415) (o := .cells #[.int .i64 a1_0, .int .i64 a1_1] 23 (0, 0)) (bk_ BK415.out) hb); have n2_ := Aside0.mk (below_step HB_ hb); clear BK414; clear BK415; clear HB; have BK414 := n0_; have BK415 := n1_; have HB := n2_; clear n0_ n1_ n2_; (try clear hb); (try clear hb2); (try clear hk); (try clear hi); have hcz182_0 : w181.cell? ⟨gb415, 0, none⟩ = some (.int .i64 a1_0) := (blk_cell BK415.out 0).trans rfl; have hcz182_1 : w181.cell? ⟨gb415, 1, none⟩ = some (.int .i64 a1_1) := (blk_cell BK415.out 1).trans rfl; have hfz182_0 := blk_frozen BK415.out 0; have hfz182_1 := blk_frozen BK415.out 1; (try clear A51)) | (go_at_call 14; (with_reducible refine (itv_Has.calls a1_0 a1_1 a3 false _ A129.out).mono ?_); rintro e w183 ⟨rfl, hb⟩; have n0_ := Aside0.mk (blk_below (g := gb414) (o := .cells #[.int .i64 a0_0, .int .i64 a0_1] 23 (0, 0)) (bk_ BK414.out) hb); have n1_ := Aside0.mk (blk_below (g := gb415) (o := .cells #[.int .i64 a1_0, .int .i64 a1_1] 23 (0, 0)) (bk_ BK415.out) hb); have n2_ := Aside0.mk (below_step HB_ hb); clear BK414; clear BK415; clear HB; have BK414 := n0_; have BK415 := n1_; have HB := n2_; clear n0_ n1_ n2_; (try clear hb); (try clear hb2); (try clear hk); (try clear hi); have hcz184_0 : w183.cell? ⟨gb414, 0, none⟩ = some (.int .i64 a0_0) := (blk_cell BK414.out 0).trans rfl; have hcz184_1 : w183.cell? ⟨gb414, 1, none⟩ = some (.int .i64 a0_1) := (blk_cell BK414.out 1).trans rfl; have hfz184_0 := blk_frozen BK414.out 0; have hfz184_1 := blk_frozen BK414.out 1; (try clear A129)) | (go_at_call 14; (with_reducible refine (itv_Has.calls a0_0 a0_1 a3 false _ A164.out).mono ?_); rintro e w185 ⟨rfl, hb⟩; have n0_ := Aside0.mk (blk_below (g := gb414) (o := .cells #[.int .i64 a0_0, .int .i64 a0_1] 23 (0, 0)) (bk_ BK414.out) hb); have n1_ := Aside0.mk (blk_below (g := gb415) (o := .cells #[.int .i64 a1_0, .int .i64 a1_1] 23 (0, 0)) (bk_ BK415.out) hb); have n2_ := Aside0.mk (below_step HB_ hb); clear BK414; clear BK415; clear HB; have BK414 := n0_; have BK415 := n1_; have HB := n2_; clear n0_ n1_ n2_; (try clear hb); (try clear hb2); (try clear hk); (try clear hi)))
                go_meet
                case rel => exact ⟨_, (false), (by first | rfl | (simp; done) | (simp [*]; done)), H', ⟨by have := HJ5.out; first | omega | exact Nat.le_refl _⟩, ⟨by (with_reducible repeat (first | refine blk_drewN ?_ _ | refine blk_drew ?_ | refine blk_alloc ?_ _)); exact BK414.out⟩, ⟨by (with_reducible repeat (first | refine blk_drewN ?_ _ | refine blk_drew ?_ | refine blk_alloc ?_ _)); exact BK415.out⟩, ⟨by repeat (first | (with_reducible first | exact HB.out | apply below_alloc | apply pw_below_drewN | apply below_drew1 | refine below_set ?_ GE414.out | refine below_set ?_ GE415.out) | exact HB.out)⟩⟩
        case rest =>
          clear HC50
          try clear c1
          try clear c2
          try clear p2
          try clear c3
          try clear c4
          try clear c5
          try clear c6
          try clear c8
          try clear c10
          try clear c11
          try clear c13
          try clear c14
          try clear c15
          try clear c16
          try clear c17
          try clear c21
          try clear c31
          try clear c32
          try clear c33
          try clear c33b0
          try clear c33b1
          try clear c33b2
          try clear c37
          try clear c37b0
          try clear c37b1
          try clear c37b2
          try clear c49
          try clear c52
          try clear c55
          try clear c57
          try clear c60
          try clear c62
          try clear c65
          try clear c84
          try clear c100
          try clear c103
          try clear c118
          try clear c130
          try clear c133
          try clear c135
          try clear c138
          try clear c153
          try clear c165
          try clear c168
          try clear c179
          try clear hcz104_0
          try clear hcz104_1
          try clear hcz106_0
          try clear hcz106_1
          try clear hcz107_0
          try clear hcz107_1
          try clear hcz110_0
          try clear hcz110_1
          try clear hcz112_0
          try clear hcz112_1
          try clear hcz114_0
          try clear hcz114_1
          try clear hcz115_0
          try clear hcz115_1
          try clear hcz119_0
          try clear hcz119_1
          try clear hcz121_0
          try clear hcz121_1
          try clear hcz122_0
          try clear hcz122_1
          try clear hcz125_0
          try clear hcz125_1
          try clear hcz127_0
          try clear hcz127_1
          try clear hcz139_0
          try clear hcz139_1
          try clear hcz141_0
          try clear hcz141_1
          try clear hcz143_0
          try clear hcz143_1
          try clear hcz144_0
          try clear hcz144_1
          try clear hcz147_0
          try clear hcz147_1
          try clear hcz149_0
          try clear hcz149_1
          try clear hcz150_0
          try clear hcz150_1
          try clear hcz154_0
          try clear hcz154_1
          try clear hcz156_0
          try clear hcz156_1
          try clear hcz158_0
          try clear hcz158_1
          try clear hcz159_0
          try clear hcz159_1
          try clear hcz162_0
          try clear hcz162_1
          try clear hcz169_0
          try clear hcz169_1
          try clear hcz171_0
          try clear hcz171_1
          try clear hcz173_0
          try clear hcz173_1
          try clear hcz175_0
          try clear hcz175_1
          try clear hcz176_0
          try clear hcz176_1
          try clear hcz180_0
          try clear hcz180_1
          try clear hcz182_0
          try clear hcz182_1
          try clear hcz184_0
          try clear hcz184_1
          try clear hcz66_0
          try clear hcz66_1
          try clear hcz68_0
          try clear hcz68_1
          try clear hcz69_0
          try clear hcz69_1
          try clear hcz72_0
          try clear hcz72_1
          try clear hcz74_0
          try clear hcz74_1
          try clear hcz75_0
          try clear hcz75_1
          try clear hcz78_0
          try clear hcz78_1
          try clear hcz80_0
          try clear hcz80_1
          try clear hcz81_0
          try clear hcz81_1
          try clear hcz85_0
          try clear hcz85_1
          try clear hcz87_0
          try clear hcz87_1
          try clear hcz88_0
          try clear hcz88_1
          try clear hcz91_0
          try clear hcz91_1
          try clear hcz93_0
          try clear hcz93_1
          try clear hcz94_0
          try clear hcz94_1
          try clear hcz97_0
          try clear hcz97_1
          try clear hfz104_0
          try clear hfz104_1
          try clear hfz106_0
          try clear hfz106_1
          try clear hfz107_0
          try clear hfz107_1
          try clear hfz110_0
          try clear hfz110_1
          try clear hfz112_0
          try clear hfz112_1
          try clear hfz114_0
          try clear hfz114_1
          try clear hfz115_0
          try clear hfz115_1
          try clear hfz119_0
          try clear hfz119_1
          try clear hfz121_0
          try clear hfz121_1
          try clear hfz122_0
          try clear hfz122_1
          try clear hfz125_0
          try clear hfz125_1
          try clear hfz127_0
          try clear hfz127_1
          try clear hfz139_0
          try clear hfz139_1
          try clear hfz141_0
          try clear hfz141_1
          try clear hfz143_0
          try clear hfz143_1
          try clear hfz144_0
          try clear hfz144_1
          try clear hfz147_0
          try clear hfz147_1
          try clear hfz149_0
          try clear hfz149_1
          try clear hfz150_0
          try clear hfz150_1
          try clear hfz154_0
          try clear hfz154_1
          try clear hfz156_0
          try clear hfz156_1
          try clear hfz158_0
          try clear hfz158_1
          try clear hfz159_0
          try clear hfz159_1
          try clear hfz162_0
          try clear hfz162_1
          try clear hfz169_0
          try clear hfz169_1
          try clear hfz171_0
          try clear hfz171_1
          try clear hfz173_0
          try clear hfz173_1
          try clear hfz175_0
          try clear hfz175_1
          try clear hfz176_0
          try clear hfz176_1
          try clear hfz180_0
          try clear hfz180_1
          try clear hfz182_0
          try clear hfz182_1
          try clear hfz184_0
          try clear hfz184_1
          try clear hfz66_0
          try clear hfz66_1
          try clear hfz68_0
          try clear hfz68_1
          try clear hfz69_0
          try clear hfz69_1
          try clear hfz72_0
          try clear hfz72_1
          try clear hfz74_0
          try clear hfz74_1
          try clear hfz75_0
          try clear hfz75_1
          try clear hfz78_0
          try clear hfz78_1
          try clear hfz80_0
          try clear hfz80_1
          try clear hfz81_0
          try clear hfz81_1
          try clear hfz85_0
          try clear hfz85_1
          try clear hfz87_0
          try clear hfz87_1
          try clear hfz88_0
          try clear hfz88_1
          try clear hfz91_0
          try clear hfz91_1
          try clear hfz93_0
          try clear hfz93_1
          try clear hfz94_0
          try clear hfz94_1
          try clear hfz97_0
          try clear hfz97_1
          try clear p2
          obtain ⟨kq, x78_49, rfl, HA, HJ49, BK414, BK415, HB⟩ := hcut
          cases kq with
          | zero => exact absurd HA.out (by simp [warrantorlaw07_ItvSets.j1])
          | succ kj49 =>
            have H := HA.out
            clear HA
            simp only [warrantorlaw07_ItvSets.j1] at H
            by_cases c186 : x78_49 = true
            · subst c186
              have H1 : (none) = some r := by rw [if_pos rfl] at H; exact H
              clear H
              have H := H1
              clear H1
              exact absurd H (by simp)
            · replace c186 := Bool.eq_false_iff.mpr c186
              subst c186
              have H1 : ((warrantorref06_Is.f a3).bind fun t464 => (if t464 = true then ((itv_Neg.f a0_0 a0_1).bind fun bt465 => ((itv_Has.f bt465.1 bt465.2 (wrap64 (-a3))).bind fun t467 => ((itv_Has.f a0_0 a0_1 a3).bind fun t468 => (warrantorlaw07_ItvSets.j2 kj49 a2 a3 a4 (t467 != t468) a0_0 a0_1 a1_0 a1_1)))) else (warrantorlaw07_ItvSets.j2 kj49 a2 a3 a4 false a0_0 a0_1 a1_0 a1_1))) = some r := by rw [if_neg (show ¬ (false = true) by decide)] at H; exact H
              clear H
              have H := H1
              clear H1
              have HC187 := Aside0.mk H
              clear H
              go_upto_region 5 with (fail)
              go_cut [91] (fun v91 wc => ∃ (kq : Nat) (x91_186 : Bool), v91 = .bool x91_186 ∧ Aside0 (warrantorlaw07_ItvSets.j2 kq a2 a3 a4 x91_186 a0_0 a0_1 a1_0 a1_1 = some r) ∧ Aside0 (kq ≤ kj49) ∧ Aside0 (wc.heap[gb414]? = some (.cells #[.int .i64 a0_0, .int .i64 a0_1] 23 (0, 0))) ∧ Aside0 (wc.heap[gb415]? = some (.cells #[.int .i64 a1_0, .int .i64 a1_1] 23 (0, 0))) ∧ Aside0 (Below w.heap.size w wc))
              case first =>
                have H := HC187.out
                clear HC187
                replace H := Option.bind_eq_some_iff.mp H
                obtain ⟨t464, A1880, H⟩ := H
                replace H : (if t464 = true then ((itv_Neg.f a0_0 a0_1).bind fun bt465 => ((itv_Has.f bt465.1 bt465.2 (wrap64 (-a3))).bind fun t467 => ((itv_Has.f a0_0 a0_1 a3).bind fun t468 => (warrantorlaw07_ItvSets.j2 kj49 a2 a3 a4 (t467 != t468) a0_0 a0_1 a1_0 a1_1)))) else (warrantorlaw07_ItvSets.j2 kj49 a2 a3 a4 false a0_0 a0_1 a1_0 a1_1)) = some r := H
                have A188 := Aside0.mk A1880
                clear A1880
                by_cases c189 : t464 = true
                · subst c189
                  have H1 : ((itv_Neg.f a0_0 a0_1).bind fun bt465 => ((itv_Has.f bt465.1 bt465.2 (wrap64 (-a3))).bind fun t467 => ((itv_Has.f a0_0 a0_1 a3).bind fun t468 => (warrantorlaw07_ItvSets.j2 kj49 a2 a3 a4 (t467 != t468) a0_0 a0_1 a1_0 a1_1)))) = some r := by rw [if_pos rfl] at H; exact H
                  clear H
                  have H := H1
                  clear H1
                  replace H := Option.bind_eq_some_iff.mp H
                  obtain ⟨⟨t465, t466⟩, A1900, H⟩ := H
                  replace H : ((itv_Has.f t465 t466 (wrap64 (-a3))).bind fun t467 => ((itv_Has.f a0_0 a0_1 a3).bind fun t468 => (warrantorlaw07_ItvSets.j2 kj49 a2 a3 a4 (t467 != t468) a0_0 a0_1 a1_0 a1_1))) = some r := H
                  have A190 := Aside0.mk A1900
                  clear A1900
                  replace H := Option.bind_eq_some_iff.mp H
                  obtain ⟨t467, A1910, H⟩ := H
                  replace H : ((itv_Has.f a0_0 a0_1 a3).bind fun t468 => (warrantorlaw07_ItvSets.j2 kj49 a2 a3 a4 (t467 != t468) a0_0 a0_1 a1_0 a1_1)) = some r := H
                  have A191 := Aside0.mk A1910
                  clear A1910
                  replace H := Option.bind_eq_some_iff.mp H
                  obtain ⟨t468, A1920, H⟩ := H
                  replace H : (warrantorlaw07_ItvSets.j2 kj49 a2 a3 a4 (t467 != t468) a0_0 a0_1 a1_0 a1_1) = some r := H
                  have A192 := Aside0.mk A1920
                  clear A1920
                  have H' := Aside0.mk H
                  clear H
                  try go_wp2
                  have n0_ := Aside0.mk (blk_drew BK414.out)
                  have n1_ := Aside0.mk (blk_drew BK415.out)
                  have n2_ := Aside0.mk (below_drew1 HB.out)
                  clear BK414
                  clear BK415
                  clear HB
                  have BK414 := n0_
                  have BK415 := n1_
                  have HB := n2_
                  clear n0_ n1_ n2_
                  refine start_ (n := 13) (S := fun w' => w'.cell? ⟨gb414, 0, none⟩ = some (.int .i64 a0_0) ∧ w'.cell? ⟨gb414, 1, none⟩ = some (.int .i64 a0_1)) (ds := []) #[false, false, false, false, false, false, false, false, false, false, false, false, false] (by kernel_rfl) rfl rfl ⟨(blk_cell BK414.out 0).trans rfl, (blk_cell BK414.out 1).trans rfl⟩ (fun hHeld => ?_); refine with_tabW warrantorlaw07_ItvSets.tab5 warrantorlaw07_ItvSets.bits5 (fun HT_ HW_ => ?_)
                  generalize wc.drew = w193 at BK414 BK415 HB hHeld ⊢
                  refine pure_ (i := 0) (N := some 79) (v := ?_) (a' := ?_) #[true, false, false, false, false, false, false, false, false, false, false, false, false] rfl rfl (any_of HT_.out (by kernel_rfl)) (fun _ _ _ h => h) (Or.inl ⟨by rfl, ?_⟩) ?_ ?_
                  rotate_left
                  · intro w'
                    go_simp
                    with_reducible rfl
                  rotate_left
                  · exact AP_
                  refine one_ (i := 1) (N := some 80) #[true, true, false, false, false, false, false, false, false, false, false, false, false] rfl rfl (one_of HT_.out (by kernel_rfl)) (by decide) (fun K hK => ?_)
                  refine goes_ Tryd.func32 (by kernel_rfl) rfl #[.int .i64 a3] (by rfl) rfl rfl MP_ ?_
                  with_reducible refine (warrantorref06_Is.calls a3 true _ A188.out).mono ?_
                  rintro e w' ⟨rfl, ⟨nd, rfl⟩⟩
                  refine ⟨_, rfl, ?_⟩
                  refine hK.out _ _ ⟨(blk_cell BK414.out 0).trans rfl, (blk_cell BK414.out 1).trans rfl⟩ (fun hHeld => ?_)
                  clear hK K
                  refine norm_ (a' := ?_) ?_ ?_
                  rotate_left
                  · show Act.put _ (some 80) _ = _
                    simp only [Act.put, List.setIfInBounds_toArray, List.set_cons_zero, List.set_cons_succ, i64_w, i32_w]
                    rfl
                  refine pure_ (i := 2) (N := some 81) (v := ?_) (a' := ?_) #[true, true, true, false, false, false, false, false, false, false, false, false, false] rfl rfl (any_of HT_.out (by kernel_rfl)) (fun _ _ _ h => h) (Or.inl ⟨by rfl, ?_⟩) ?_ ?_
                  rotate_left
                  · intro w'
                    go_simp
                    with_reducible rfl
                  rotate_left
                  · exact AP_
                  refine pure_ (i := 5) (N := some 84) (v := ?_) (a' := ?_) #[true, true, true, false, false, true, false, false, false, false, false, false, false] rfl rfl (any_of HT_.out (by kernel_rfl)) (fun _ _ _ h => h) (Or.inl ⟨by rfl, ?_⟩) ?_ ?_
                  rotate_left
                  · intro w'
                    go_simp
                    with_reducible rfl
                  rotate_left
                  · exact AP_
                  refine pure_ (i := 6) (N := some 85) (v := ?_) (a' := ?_) #[true, true, true, false, false, true, true, false, false, false, false, false, false] rfl rfl (any_of HT_.out (by kernel_rfl)) (fun _ _ _ h => h) (Or.inl ⟨by rfl, ?_⟩) ?_ ?_
                  rotate_left
                  · intro w'
                    go_simp
                    with_reducible rfl
                  rotate_left
                  · exact AP_
                  refine pure_ (i := 9) (N := some 88) (v := ?_) (a' := ?_) #[true, true, true, false, false, true, true, false, false, true, false, false, false] rfl rfl (any_of HT_.out (by kernel_rfl)) (fun _ _ _ h => h) (Or.inl ⟨by rfl, ?_⟩) ?_ ?_
                  rotate_left
                  · intro w'
                    go_simp
                    with_reducible rfl
                  rotate_left
                  · exact AP_
                  refine take_ (i := 3) (N := some 82) (v := ?_) (a' := ?_) #[true, true, true, true, false, true, true, false, false, true, false, false, false] rfl rfl (take_ofW HT_.out HW_.out (by kernel_rfl)) (fun _ _ _ h => h) (Or.inl ⟨by rfl, ?_⟩) hHeld ?_ ?_
                  rotate_left
                  · rintro w' ⟨s0, s1⟩
                    go_simp
                    with_reducible rfl
                  rotate_left
                  · exact AP_
                  refine take_ (i := 8) (N := some 87) (v := ?_) (a' := ?_) #[true, true, true, true, false, true, true, false, true, true, false, false, false] rfl rfl (take_ofW HT_.out HW_.out (by kernel_rfl)) (fun _ _ _ h => h) (Or.inl ⟨by rfl, ?_⟩) hHeld ?_ ?_
                  rotate_left
                  · rintro w' ⟨s0, s1⟩
                    go_simp
                    with_reducible rfl
                  rotate_left
                  · exact AP_
                  refine one_ (i := 4) (N := some 83) #[true, true, true, true, true, true, true, false, true, true, false, false, false] rfl rfl (one_of HT_.out (by kernel_rfl)) (by decide) (fun K hK => ?_)
                  refine goes_ Tryd.func27 (by kernel_rfl) rfl #[.agg #[.int .i64 a0_0, .int .i64 a0_1]] (by rfl) rfl rfl MP_ ?_
                  with_reducible refine (itv_Neg.calls a0_0 a0_1 t465 t466 _ A190.out).mono ?_
                  rintro e w194 ⟨rfl, hb⟩
                  refine ⟨_, rfl, ?_⟩
                  have n0_ := Aside0.mk (blk_below (g := gb414) (o := .cells #[.int .i64 a0_0, .int .i64 a0_1] 23 (0, 0)) (bk_ BK414.out) hb)
                  have n1_ := Aside0.mk (blk_below (g := gb415) (o := .cells #[.int .i64 a1_0, .int .i64 a1_1] 23 (0, 0)) (bk_ BK415.out) hb)
                  have n2_ := Aside0.mk (below_step HB_ hb)
                  clear BK414
                  clear BK415
                  clear HB
                  have BK414 := n0_
                  have BK415 := n1_
                  have HB := n2_
                  clear n0_ n1_ n2_
                  (try clear hb)
                  (try clear hb2)
                  (try clear hk)
                  (try clear hi)
                  refine hK.out _ _ ⟨(blk_cell BK414.out 0).trans rfl, (blk_cell BK414.out 1).trans rfl⟩ (fun hHeld => ?_)
                  clear hK K
                  refine norm_ (a' := ?_) ?_ ?_
                  rotate_left
                  · show Act.put _ (some 83) _ = _
                    simp only [Act.put, List.setIfInBounds_toArray, List.set_cons_zero, List.set_cons_succ, i64_w, i32_w]
                    rfl
                  refine one_ (i := 7) (N := some 86) #[true, true, true, true, true, true, true, true, true, true, false, false, false] rfl rfl (one_of HT_.out (by kernel_rfl)) (by decide) (fun K hK => ?_)
                  refine goes_ Tryd.func14 (by kernel_rfl) rfl #[.agg #[.int .i64 t465, .int .i64 t466], .int .i64 (wrap64 (-a3))] (by rfl) rfl rfl MP_ ?_
                  with_reducible refine (itv_Has.calls t465 t466 (wrap64 (-a3)) t467 _ A191.out).mono ?_
                  rintro e w195 ⟨rfl, hb⟩
                  refine ⟨_, rfl, ?_⟩
                  have n0_ := Aside0.mk (blk_below (g := gb414) (o := .cells #[.int .i64 a0_0, .int .i64 a0_1] 23 (0, 0)) (bk_ BK414.out) hb)
                  have n1_ := Aside0.mk (blk_below (g := gb415) (o := .cells #[.int .i64 a1_0, .int .i64 a1_1] 23 (0, 0)) (bk_ BK415.out) hb)
                  have n2_ := Aside0.mk (below_step HB_ hb)
                  clear BK414
                  clear BK415
                  clear HB
                  have BK414 := n0_
                  have BK415 := n1_
                  have HB := n2_
                  clear n0_ n1_ n2_
                  (try clear hb)
                  (try clear hb2)
                  (try clear hk)
                  (try clear hi)
                  refine hK.out _ _ ⟨(blk_cell BK414.out 0).trans rfl, (blk_cell BK414.out 1).trans rfl⟩ (fun hHeld => ?_)
                  clear hK K
                  refine norm_ (a' := ?_) ?_ ?_
                  rotate_left
                  · show Act.put _ (some 86) _ = _
                    simp only [Act.put, List.setIfInBounds_toArray, List.set_cons_zero, List.set_cons_succ, i64_w, i32_w]
                    rfl
                  refine one_ (i := 10) (N := some 89) #[true, true, true, true, true, true, true, true, true, true, true, false, false] rfl rfl (one_of HT_.out (by kernel_rfl)) (by decide) (fun K hK => ?_)
                  refine goes_ Tryd.func14 (by kernel_rfl) rfl #[.agg #[.int .i64 a0_0, .int .i64 a0_1], .int .i64 a3] (by rfl) rfl rfl MP_ ?_
                  with_reducible refine (itv_Has.calls a0_0 a0_1 a3 t468 _ A192.out).mono ?_
                  rintro e w196 ⟨rfl, hb⟩
                  refine ⟨_, rfl, ?_⟩
                  have n0_ := Aside0.mk (blk_below (g := gb414) (o := .cells #[.int .i64 a0_0, .int .i64 a0_1] 23 (0, 0)) (bk_ BK414.out) hb)
                  have n1_ := Aside0.mk (blk_below (g := gb415) (o := .cells #[.int .i64 a1_0, .int .i64 a1_1] 23 (0, 0)) (bk_ BK415.out) hb)
                  have n2_ := Aside0.mk (below_step HB_ hb)
                  clear BK414
                  clear BK415
                  clear HB
                  have BK414 := n0_
                  have BK415 := n1_
                  have HB := n2_
                  clear n0_ n1_ n2_
                  (try clear hb)
                  (try clear hb2)
                  (try clear hk)
                  (try clear hi)
                  refine hK.out _ _ ⟨(blk_cell BK414.out 0).trans rfl, (blk_cell BK414.out 1).trans rfl⟩ (fun hHeld => ?_)
                  clear hK K
                  refine norm_ (a' := ?_) ?_ ?_
                  rotate_left
                  · show Act.put _ (some 89) _ = _
                    simp only [Act.put, List.setIfInBounds_toArray, List.set_cons_zero, List.set_cons_succ, i64_w, i32_w]
                    rfl
                  refine pure_ (i := 11) (N := some 90) (v := ?_) (a' := ?_) #[true, true, true, true, true, true, true, true, true, true, true, true, false] rfl rfl (any_of HT_.out (by kernel_rfl)) (fun _ _ _ h => h) (Or.inl ⟨by rfl, ?_⟩) ?_ ?_
                  rotate_left
                  · intro w'
                    go_simp
                    with_reducible rfl
                  rotate_left
                  · exact AP_
                  refine pure_ (i := 12) (N := some 91) (v := ?_) (a' := ?_) #[true, true, true, true, true, true, true, true, true, true, true, true, true] rfl rfl (any_of HT_.out (by kernel_rfl)) (fun _ _ _ h => h) (Or.inl ⟨by rfl, ?_⟩) ?_ ?_
                  rotate_left
                  · intro w'
                    go_simp
                    with_reducible rfl
                  rotate_left
                  · exact AP_
                  refine done_ (done_of HT_.out (by kernel_rfl)) ?_
                  try go_wp2
                  go_meet
                  case rel => exact ⟨_, ((t467 != t468)), (by first | rfl | (simp; done) | (simp [*]; done)), H', ⟨by have := HJ5.out; have := HJ49.out; first | omega | exact Nat.le_refl _⟩, ⟨by (with_reducible repeat (first | refine blk_drewN ?_ _ | refine blk_drew ?_ | refine blk_alloc ?_ _)); exact BK414.out⟩, ⟨by (with_reducible repeat (first | refine blk_drewN ?_ _ | refine blk_drew ?_ | refine blk_alloc ?_ _)); exact BK415.out⟩, ⟨by repeat (first | (with_reducible first | exact HB.out | apply below_alloc | apply pw_below_drewN | apply below_drew1 | refine below_set ?_ GE414.out | refine below_set ?_ GE415.out) | exact HB.out)⟩⟩
                · replace c189 := Bool.eq_false_iff.mpr c189
                  subst c189
                  have H1 : (warrantorlaw07_ItvSets.j2 kj49 a2 a3 a4 false a0_0 a0_1 a1_0 a1_1) = some r := by rw [if_neg (show ¬ (false = true) by decide)] at H; exact H
                  clear H
                  have H := H1
                  clear H1
                  have H' := Aside0.mk H
                  clear H
                  try go_wp2
                  have n0_ := Aside0.mk (blk_drew BK414.out)
                  have n1_ := Aside0.mk (blk_drew BK415.out)
                  have n2_ := Aside0.mk (below_drew1 HB.out)
                  clear BK414
                  clear BK415
                  clear HB
                  have BK414 := n0_
                  have BK415 := n1_
                  have HB := n2_
                  clear n0_ n1_ n2_
                  refine start_ (n := 13) (S := fun w' => True) (ds := []) #[false, false, false, false, false, false, false, false, false, false, false, false, false] (by kernel_rfl) rfl rfl trivial (fun hHeld => ?_); refine with_tabW warrantorlaw07_ItvSets.tab5 warrantorlaw07_ItvSets.bits5 (fun HT_ HW_ => ?_)
                  generalize wc.drew = w197 at BK414 BK415 HB hHeld ⊢
                  refine pure_ (i := 0) (N := some 79) (v := ?_) (a' := ?_) #[true, false, false, false, false, false, false, false, false, false, false, false, false] rfl rfl (any_of HT_.out (by kernel_rfl)) (fun _ _ _ h => h) (Or.inl ⟨by rfl, ?_⟩) ?_ ?_
                  rotate_left
                  · intro w'
                    go_simp
                    with_reducible rfl
                  rotate_left
                  · exact AP_
                  refine one_ (i := 1) (N := some 80) #[true, true, false, false, false, false, false, false, false, false, false, false, false] rfl rfl (one_of HT_.out (by kernel_rfl)) (by decide) (fun K hK => ?_)
                  refine goes_ Tryd.func32 (by kernel_rfl) rfl #[.int .i64 a3] (by rfl) rfl rfl MP_ ?_
                  with_reducible refine (warrantorref06_Is.calls a3 false _ A188.out).mono ?_
                  rintro e w' ⟨rfl, ⟨nd, rfl⟩⟩
                  refine ⟨_, rfl, ?_⟩
                  refine hK.out _ _ trivial (fun hHeld => ?_)
                  clear hK K
                  refine norm_ (a' := ?_) ?_ ?_
                  rotate_left
                  · show Act.put _ (some 80) _ = _
                    simp only [Act.put, List.setIfInBounds_toArray, List.set_cons_zero, List.set_cons_succ, i64_w, i32_w]
                    rfl
                  refine pure_ (i := 2) (N := some 81) (v := ?_) (a' := ?_) #[true, true, true, false, false, false, false, false, false, false, false, false, false] rfl rfl (any_of HT_.out (by kernel_rfl)) (fun _ _ _ h => h) (Or.inl ⟨by rfl, ?_⟩) ?_ ?_
                  rotate_left
                  · intro w'
                    go_simp
                    with_reducible rfl
                  rotate_left
                  · exact AP_
                  refine pure_ (i := 3) (N := some 82) (v := undef) (a' := ?_) #[true, true, true, true, false, false, false, false, false, false, false, false, false] rfl rfl (any_of HT_.out (by kernel_rfl)) (fun _ _ _ h => h) (Or.inr ⟨by rfl, rfl⟩) ?_ ?_
                  rotate_left
                  · exact AP_
                  refine pure_ (i := 4) (N := some 83) (v := undef) (a' := ?_) #[true, true, true, true, true, false, false, false, false, false, false, false, false] rfl rfl (any_of HT_.out (by kernel_rfl)) (fun _ _ _ h => h) (Or.inr ⟨by rfl, rfl⟩) ?_ ?_
                  rotate_left
                  · exact AP_
                  refine pure_ (i := 5) (N := some 84) (v := undef) (a' := ?_) #[true, true, true, true, true, true, false, false, false, false, false, false, false] rfl rfl (any_of HT_.out (by kernel_rfl)) (fun _ _ _ h => h) (Or.inr ⟨by rfl, rfl⟩) ?_ ?_
                  rotate_left
                  · exact AP_
                  refine pure_ (i := 6) (N := some 85) (v := undef) (a' := ?_) #[true, true, true, true, true, true, true, false, false, false, false, false, false] rfl rfl (any_of HT_.out (by kernel_rfl)) (fun _ _ _ h => h) (Or.inr ⟨by rfl, rfl⟩) ?_ ?_
                  rotate_left
                  · exact AP_
                  refine pure_ (i := 7) (N := some 86) (v := undef) (a' := ?_) #[true, true, true, true, true, true, true, true, false, false, false, false, false] rfl rfl (any_of HT_.out (by kernel_rfl)) (fun _ _ _ h => h) (Or.inr ⟨by rfl, rfl⟩) ?_ ?_
                  rotate_left
                  · exact AP_
                  refine pure_ (i := 8) (N := some 87) (v := undef) (a' := ?_) #[true, true, true, true, true, true, true, true, true, false, false, false, false] rfl rfl (any_of HT_.out (by kernel_rfl)) (fun _ _ _ h => h) (Or.inr ⟨by rfl, rfl⟩) ?_ ?_
                  rotate_left
                  · exact AP_
                  refine pure_ (i := 9) (N := some 88) (v := undef) (a' := ?_) #[true, true, true, true, true, true, true, true, true, true, false, false, false] rfl rfl (any_of HT_.out (by kernel_rfl)) (fun _ _ _ h => h) (Or.inr ⟨by rfl, rfl⟩) ?_ ?_
                  rotate_left
                  · exact AP_
                  refine pure_ (i := 10) (N := some 89) (v := undef) (a' := ?_) #[true, true, true, true, true, true, true, true, true, true, true, false, false] rfl rfl (any_of HT_.out (by kernel_rfl)) (fun _ _ _ h => h) (Or.inr ⟨by rfl, rfl⟩) ?_ ?_
                  rotate_left
                  · exact AP_
                  refine pure_ (i := 11) (N := some 90) (v := undef) (a' := ?_) #[true, true, true, true, true, true, true, true, true, true, true, true, false] rfl rfl (any_of HT_.out (by kernel_rfl)) (fun _ _ _ h => h) (Or.inr ⟨by rfl, rfl⟩) ?_ ?_
                  rotate_left
                  · exact AP_
                  refine pure_ (i := 12) (N := some 91) (v := ?_) (a' := ?_) #[true, true, true, true, true, true, true, true, true, true, true, true, true] rfl rfl (any_of HT_.out (by kernel_rfl)) (fun _ _ _ h => h) (Or.inl ⟨by rfl, ?_⟩) ?_ ?_
                  rotate_left
                  · intro w'
                    go_simp
                    with_reducible rfl
                  rotate_left
                  · exact AP_
                  refine done_ (done_of HT_.out (by kernel_rfl)) ?_
                  try go_wp2
                  go_meet
                  case rel => exact ⟨_, (false), (by first | rfl | (simp; done) | (simp [*]; done)), H', ⟨by have := HJ5.out; have := HJ49.out; first | omega | exact Nat.le_refl _⟩, ⟨by (with_reducible repeat (first | refine blk_drewN ?_ _ | refine blk_drew ?_ | refine blk_alloc ?_ _)); exact BK414.out⟩, ⟨by (with_reducible repeat (first | refine blk_drewN ?_ _ | refine blk_drew ?_ | refine blk_alloc ?_ _)); exact BK415.out⟩, ⟨by repeat (first | (with_reducible first | exact HB.out | apply below_alloc | apply pw_below_drewN | apply below_drew1 | refine below_set ?_ GE414.out | refine below_set ?_ GE415.out) | exact HB.out)⟩⟩
              case rest =>
                clear HC187
                try clear c1
                try clear c2
                try clear p2
                try clear c3
                try clear c4
                try clear c5
                try clear c6
                try clear p6
                try clear c8
                try clear c10
                try clear c11
                try clear c13
                try clear c14
                try clear c15
                try clear c16
                try clear c17
                try clear c18
                try clear c21
                try clear c27
                try clear c31
                try clear c32
                try clear c33
                try clear c33b0
                try clear c33b1
                try clear c33b2
                try clear c37
                try clear c37b0
                try clear c37b1
                try clear c37b2
                try clear c49
                try clear c52
                try clear c55
                try clear c57
                try clear c60
                try clear c62
                try clear p64
                try clear c65
                try clear c84
                try clear c100
                try clear c103
                try clear c118
                try clear c130
                try clear c133
                try clear c135
                try clear c138
                try clear c153
                try clear c165
                try clear c168
                try clear c179
                try clear c186
                try clear c189
                try clear hcz104_0
                try clear hcz104_1
                try clear hcz106_0
                try clear hcz106_1
                try clear hcz107_0
                try clear hcz107_1
                try clear hcz110_0
                try clear hcz110_1
                try clear hcz112_0
                try clear hcz112_1
                try clear hcz114_0
                try clear hcz114_1
                try clear hcz115_0
                try clear hcz115_1
                try clear hcz119_0
                try clear hcz119_1
                try clear hcz121_0
                try clear hcz121_1
                try clear hcz122_0
                try clear hcz122_1
                try clear hcz125_0
                try clear hcz125_1
                try clear hcz127_0
                try clear hcz127_1
                try clear hcz139_0
                try clear hcz139_1
                try clear hcz141_0
                try clear hcz141_1
                try clear hcz143_0
                try clear hcz143_1
                try clear hcz144_0
                try clear hcz144_1
                try clear hcz147_0
                try clear hcz147_1
                try clear hcz149_0
                try clear hcz149_1
                try clear hcz150_0
                try clear hcz150_1
                try clear hcz154_0
                try clear hcz154_1
                try clear hcz156_0
                try clear hcz156_1
                try clear hcz158_0
                try clear hcz158_1
                try clear hcz159_0
                try clear hcz159_1
                try clear hcz162_0
                try clear hcz162_1
                try clear hcz169_0
                try clear hcz169_1
                try clear hcz171_0
                try clear hcz171_1
                try clear hcz173_0
                try clear hcz173_1
                try clear hcz175_0
                try clear hcz175_1
                try clear hcz176_0
                try clear hcz176_1
                try clear hcz180_0
                try clear hcz180_1
                try clear hcz182_0
                try clear hcz182_1
                try clear hcz184_0
                try clear hcz184_1
                try clear hcz66_0
                try clear hcz66_1
                try clear hcz68_0
                try clear hcz68_1
                try clear hcz69_0
                try clear hcz69_1
                try clear hcz72_0
                try clear hcz72_1
                try clear hcz74_0
                try clear hcz74_1
                try clear hcz75_0
                try clear hcz75_1
                try clear hcz78_0
                try clear hcz78_1
                try clear hcz80_0
                try clear hcz80_1
                try clear hcz81_0
                try clear hcz81_1
                try clear hcz85_0
                try clear hcz85_1
                try clear hcz87_0
                try clear hcz87_1
                try clear hcz88_0
                try clear hcz88_1
                try clear hcz91_0
                try clear hcz91_1
                try clear hcz93_0
                try clear hcz93_1
                try clear hcz94_0
                try clear hcz94_1
                try clear hcz97_0
                try clear hcz97_1
                try clear hfz104_0
                try clear hfz104_1
                try clear hfz106_0
                try clear hfz106_1
                try clear hfz107_0
                try clear hfz107_1
                try clear hfz110_0
                try clear hfz110_1
                try clear hfz112_0
                try clear hfz112_1
                try clear hfz114_0
                try clear hfz114_1
                try clear hfz115_0
                try clear hfz115_1
                try clear hfz119_0
                try clear hfz119_1
                try clear hfz121_0
                try clear hfz121_1
                try clear hfz122_0
                try clear hfz122_1
                try clear hfz125_0
                try clear hfz125_1
                try clear hfz127_0
                try clear hfz127_1
                try clear hfz139_0
                try clear hfz139_1
                try clear hfz141_0
                try clear hfz141_1
                try clear hfz143_0
                try clear hfz143_1
                try clear hfz144_0
                try clear hfz144_1
                try clear hfz147_0
                try clear hfz147_1
                try clear hfz149_0
                try clear hfz149_1
                try clear hfz150_0
                try clear hfz150_1
                try clear hfz154_0
                try clear hfz154_1
                try clear hfz156_0
                try clear hfz156_1
                try clear hfz158_0
                try clear hfz158_1
                try clear hfz159_0
                try clear hfz159_1
                try clear hfz162_0
                try clear hfz162_1
                try clear hfz169_0
                try clear hfz169_1
                try clear hfz171_0
                try clear hfz171_1
                try clear hfz173_0
                try clear hfz173_1
                try clear hfz175_0
                try clear hfz175_1
                try clear hfz176_0
                try clear hfz176_1
                try clear hfz180_0
                try clear hfz180_1
                try clear hfz182_0
                try clear hfz182_1
                try clear hfz184_0
                try clear hfz184_1
                try clear hfz66_0
                try clear hfz66_1
                try clear hfz68_0
                try clear hfz68_1
                try clear hfz69_0
                try clear hfz69_1
                try clear hfz72_0
                try clear hfz72_1
                try clear hfz74_0
                try clear hfz74_1
                try clear hfz75_0
                try clear hfz75_1
                try clear hfz78_0
                try clear hfz78_1
                try clear hfz80_0
                try clear hfz80_1
                try clear hfz81_0
                try clear hfz81_1
                try clear hfz85_0
                try clear hfz85_1
                try clear hfz87_0
                try clear hfz87_1
                try clear hfz88_0
                try clear hfz88_1
                try clear hfz91_0
                try clear hfz91_1
                try clear hfz93_0
                try clear hfz93_1
                try clear hfz94_0
                try clear hfz94_1
                try clear hfz97_0
                try clear hfz97_1
                try clear p2
                obtain ⟨kq, x91_186, rfl, HA, HJ186, BK414, BK415, HB⟩ := hcut
                cases kq with
                | zero => exact absurd HA.out (by simp [warrantorlaw07_ItvSets.j2])
                | succ kj186 =>
                  have H := HA.out
                  clear HA
                  simp only [warrantorlaw07_ItvSets.j2] at H
                  by_cases c198 : x91_186 = true
                  · subst c198
                    have H1 : (none) = some r := by rw [if_pos rfl] at H; exact H
                    clear H
                    have H := H1
                    clear H1
                    exact absurd H (by simp)
                  · replace c198 := Bool.eq_false_iff.mpr c198
                    subst c198
                    have H1 : ((warrantorref06_Is.f a3).bind fun t469 => (if t469 = true then ((warrantorref06_Is.f a4).bind fun t470 => (if t470 = true then ((itv_Has.f a0_0 a0_1 a3).bind fun t471 => (if t471 = true then ((itv_Has.f a1_0 a1_1 a4).bind fun t472 => (if t472 = true then ((itv_Plus.f a0_0 a0_1 a1_0 a1_1).bind fun bt473 => ((itv_Has.f bt473.1 bt473.2 (wrap64 (a3 + a4))).bind fun t475 => ((warrantorref06_Is.f (wrap64 (a3 + a4))).bind fun t476 => (warrantorlaw07_ItvSets.j3 kj186 a2 a3 (t475 != t476) a0_0 a0_1)))) else (warrantorlaw07_ItvSets.j3 kj186 a2 a3 false a0_0 a0_1))) else (warrantorlaw07_ItvSets.j3 kj186 a2 a3 false a0_0 a0_1))) else (warrantorlaw07_ItvSets.j3 kj186 a2 a3 false a0_0 a0_1))) else (warrantorlaw07_ItvSets.j3 kj186 a2 a3 false a0_0 a0_1))) = some r := by rw [if_neg (show ¬ (false = true) by decide)] at H; exact H
                    clear H
                    have H := H1
                    clear H1
                    have HC199 := Aside0.mk H
                    clear H
                    go_upto_region 7 with (fail)
                    go_cut [121] (fun v121 wc => ∃ (kq : Nat) (x121_198 : Bool), v121 = .bool x121_198 ∧ Aside0 (warrantorlaw07_ItvSets.j3 kq a2 a3 x121_198 a0_0 a0_1 = some r) ∧ Aside0 (kq ≤ kj186) ∧ Aside0 (wc.heap[gb414]? = some (.cells #[.int .i64 a0_0, .int .i64 a0_1] 23 (0, 0))) ∧ Aside0 (wc.heap[gb415]? = some (.cells #[.int .i64 a1_0, .int .i64 a1_1] 23 (0, 0))) ∧ Aside0 (Below w.heap.size w wc))
                    case first =>
                      have H := HC199.out
                      clear HC199
                      replace H := Option.bind_eq_some_iff.mp H
                      obtain ⟨t469, A2000, H⟩ := H
                      replace H : (if t469 = true then ((warrantorref06_Is.f a4).bind fun t470 => (if t470 = true then ((itv_Has.f a0_0 a0_1 a3).bind fun t471 => (if t471 = true then ((itv_Has.f a1_0 a1_1 a4).bind fun t472 => (if t472 = true then ((itv_Plus.f a0_0 a0_1 a1_0 a1_1).bind fun bt473 => ((itv_Has.f bt473.1 bt473.2 (wrap64 (a3 + a4))).bind fun t475 => ((warrantorref06_Is.f (wrap64 (a3 + a4))).bind fun t476 => (warrantorlaw07_ItvSets.j3 kj186 a2 a3 (t475 != t476) a0_0 a0_1)))) else (warrantorlaw07_ItvSets.j3 kj186 a2 a3 false a0_0 a0_1))) else (warrantorlaw07_ItvSets.j3 kj186 a2 a3 false a0_0 a0_1))) else (warrantorlaw07_ItvSets.j3 kj186 a2 a3 false a0_0 a0_1))) else (warrantorlaw07_ItvSets.j3 kj186 a2 a3 false a0_0 a0_1)) = some r := H
                      have A200 := Aside0.mk A2000
                      clear A2000
                      by_cases c201 : t469 = true
                      · subst c201
                        have H1 : ((warrantorref06_Is.f a4).bind fun t470 => (if t470 = true then ((itv_Has.f a0_0 a0_1 a3).bind fun t471 => (if t471 = true then ((itv_Has.f a1_0 a1_1 a4).bind fun t472 => (if t472 = true then ((itv_Plus.f a0_0 a0_1 a1_0 a1_1).bind fun bt473 => ((itv_Has.f bt473.1 bt473.2 (wrap64 (a3 + a4))).bind fun t475 => ((warrantorref06_Is.f (wrap64 (a3 + a4))).bind fun t476 => (warrantorlaw07_ItvSets.j3 kj186 a2 a3 (t475 != t476) a0_0 a0_1)))) else (warrantorlaw07_ItvSets.j3 kj186 a2 a3 false a0_0 a0_1))) else (warrantorlaw07_ItvSets.j3 kj186 a2 a3 false a0_0 a0_1))) else (warrantorlaw07_ItvSets.j3 kj186 a2 a3 false a0_0 a0_1))) = some r := by rw [if_pos rfl] at H; exact H
                        clear H
                        have H := H1
                        clear H1
                        replace H := Option.bind_eq_some_iff.mp H
                        obtain ⟨t470, A2020, H⟩ := H
                        replace H : (if t470 = true then ((itv_Has.f a0_0 a0_1 a3).bind fun t471 => (if t471 = true then ((itv_Has.f a1_0 a1_1 a4).bind fun t472 => (if t472 = true then ((itv_Plus.f a0_0 a0_1 a1_0 a1_1).bind fun bt473 => ((itv_Has.f bt473.1 bt473.2 (wrap64 (a3 + a4))).bind fun t475 => ((warrantorref06_Is.f (wrap64 (a3 + a4))).bind fun t476 => (warrantorlaw07_ItvSets.j3 kj186 a2 a3 (t475 != t476) a0_0 a0_1)))) else (warrantorlaw07_ItvSets.j3 kj186 a2 a3 false a0_0 a0_1))) else (warrantorlaw07_ItvSets.j3 kj186 a2 a3 false a0_0 a0_1))) else (warrantorlaw07_ItvSets.j3 kj186 a2 a3 false a0_0 a0_1)) = some r := H
                        have A202 := Aside0.mk A2020
                        clear A2020
                        by_cases c203 : t470 = true
                        · subst c203
                          have H1 : ((itv_Has.f a0_0 a0_1 a3).bind fun t471 => (if t471 = true then ((itv_Has.f a1_0 a1_1 a4).bind fun t472 => (if t472 = true then ((itv_Plus.f a0_0 a0_1 a1_0 a1_1).bind fun bt473 => ((itv_Has.f bt473.1 bt473.2 (wrap64 (a3 + a4))).bind fun t475 => ((warrantorref06_Is.f (wrap64 (a3 + a4))).bind fun t476 => (warrantorlaw07_ItvSets.j3 kj186 a2 a3 (t475 != t476) a0_0 a0_1)))) else (warrantorlaw07_ItvSets.j3 kj186 a2 a3 false a0_0 a0_1))) else (warrantorlaw07_ItvSets.j3 kj186 a2 a3 false a0_0 a0_1))) = some r := by rw [if_pos rfl] at H; exact H
                          clear H
                          have H := H1
                          clear H1
                          replace H := Option.bind_eq_some_iff.mp H
                          obtain ⟨t471, A2040, H⟩ := H
                          replace H : (if t471 = true then ((itv_Has.f a1_0 a1_1 a4).bind fun t472 => (if t472 = true then ((itv_Plus.f a0_0 a0_1 a1_0 a1_1).bind fun bt473 => ((itv_Has.f bt473.1 bt473.2 (wrap64 (a3 + a4))).bind fun t475 => ((warrantorref06_Is.f (wrap64 (a3 + a4))).bind fun t476 => (warrantorlaw07_ItvSets.j3 kj186 a2 a3 (t475 != t476) a0_0 a0_1)))) else (warrantorlaw07_ItvSets.j3 kj186 a2 a3 false a0_0 a0_1))) else (warrantorlaw07_ItvSets.j3 kj186 a2 a3 false a0_0 a0_1)) = some r := H
                          have A204 := Aside0.mk A2040
                          clear A2040
                          by_cases c205 : t471 = true
                          · subst c205
                            have H1 : ((itv_Has.f a1_0 a1_1 a4).bind fun t472 => (if t472 = true then ((itv_Plus.f a0_0 a0_1 a1_0 a1_1).bind fun bt473 => ((itv_Has.f bt473.1 bt473.2 (wrap64 (a3 + a4))).bind fun t475 => ((warrantorref06_Is.f (wrap64 (a3 + a4))).bind fun t476 => (warrantorlaw07_ItvSets.j3 kj186 a2 a3 (t475 != t476) a0_0 a0_1)))) else (warrantorlaw07_ItvSets.j3 kj186 a2 a3 false a0_0 a0_1))) = some r := by rw [if_pos rfl] at H; exact H
                            clear H
                            have H := H1
                            clear H1
                            replace H := Option.bind_eq_some_iff.mp H
                            obtain ⟨t472, A2060, H⟩ := H
                            replace H : (if t472 = true then ((itv_Plus.f a0_0 a0_1 a1_0 a1_1).bind fun bt473 => ((itv_Has.f bt473.1 bt473.2 (wrap64 (a3 + a4))).bind fun t475 => ((warrantorref06_Is.f (wrap64 (a3 + a4))).bind fun t476 => (warrantorlaw07_ItvSets.j3 kj186 a2 a3 (t475 != t476) a0_0 a0_1)))) else (warrantorlaw07_ItvSets.j3 kj186 a2 a3 false a0_0 a0_1)) = some r := H
                            have A206 := Aside0.mk A2060
                            clear A2060
                            by_cases c207 : t472 = true
                            · subst c207
                              have H1 : ((itv_Plus.f a0_0 a0_1 a1_0 a1_1).bind fun bt473 => ((itv_Has.f bt473.1 bt473.2 (wrap64 (a3 + a4))).bind fun t475 => ((warrantorref06_Is.f (wrap64 (a3 + a4))).bind fun t476 => (warrantorlaw07_ItvSets.j3 kj186 a2 a3 (t475 != t476) a0_0 a0_1)))) = some r := by rw [if_pos rfl] at H; exact H
                              clear H
                              have H := H1
                              clear H1
                              replace H := Option.bind_eq_some_iff.mp H
                              obtain ⟨⟨t473, t474⟩, A2080, H⟩ := H
                              replace H : ((itv_Has.f t473 t474 (wrap64 (a3 + a4))).bind fun t475 => ((warrantorref06_Is.f (wrap64 (a3 + a4))).bind fun t476 => (warrantorlaw07_ItvSets.j3 kj186 a2 a3 (t475 != t476) a0_0 a0_1))) = some r := H
                              have A208 := Aside0.mk A2080
                              clear A2080
                              replace H := Option.bind_eq_some_iff.mp H
                              obtain ⟨t475, A2090, H⟩ := H
                              replace H : ((warrantorref06_Is.f (wrap64 (a3 + a4))).bind fun t476 => (warrantorlaw07_ItvSets.j3 kj186 a2 a3 (t475 != t476) a0_0 a0_1)) = some r := H
                              have A209 := Aside0.mk A2090
                              clear A2090
                              replace H := Option.bind_eq_some_iff.mp H
                              obtain ⟨t476, A2100, H⟩ := H
                              replace H : (warrantorlaw07_ItvSets.j3 kj186 a2 a3 (t475 != t476) a0_0 a0_1) = some r := H
                              have A210 := Aside0.mk A2100
                              clear A2100
                              have H' := Aside0.mk H
                              clear H
                              go_wp2_with (first | ((with_reducible refine gate_callee (f := 32) rfl ?_); refine goesL_ (some 93) rfl rfl Tryd.func32 (by kernel_rfl) rfl #[.int .i64 a3] rfl MP_ ?_; (with_reducible refine (warrantorref06_Is.calls a3 true _ A200.out).mono ?_); rintro e w' ⟨rfl, ⟨nd, rfl⟩⟩; refine ⟨_, rfl, ?_⟩; (try clear A200)) | (go_at_call 32; (with_reducible refine (warrantorref06_Is.calls a4 true _ A202.out).mono ?_); rintro e w' ⟨rfl, ⟨nd, rfl⟩⟩; have hnb211 := NB414_415.out; have hnc211 := NB415_414.out; have hcz212_0 : wc.cell? ⟨gb414, 0, none⟩ = some (.int .i64 a0_0) := (blk_cell BK414.out 0).trans rfl; have hcz212_1 : wc.cell? ⟨gb414, 1, none⟩ = some (.int .i64 a0_1) := (blk_cell BK414.out 1).trans rfl; have hfz212_0 := blk_frozen BK414.out 0; have hfz212_1 := blk_frozen BK414.out 1; (try clear A202)) | (go_at_call 14; (with_reducible refine (itv_Has.calls a0_0 a0_1 a3 true _ A204.out).mono ?_); rintro e w213 ⟨rfl, hb⟩; have n0_ := Aside0.mk (blk_below (g := gb414) (o := .cells #[.int .i64 a0_0, .int .i64 a0_1] 23 (0, 0)) (bk_ BK414.out) hb); have n1_ := Aside0.mk (blk_below (g := gb415) (o := .cells #[.int .i64 a1_0, .int .i64 a1_1] 23 (0, 0)) (bk_ BK415.out) hb); have n2_ := Aside0.mk (below_step HB_ hb); clear BK414; clear BK415; clear HB; have BK414 := n0_; have BK415 := n1_; have HB := n2_; clear n0_ n1_ n2_; (try clear hb); (try clear hb2); (try clear hk); (try clear hi); have hcz214_0 : w213.cell? ⟨gb415, 0, none⟩ = some (.int .i64 a1_0) := (blk_cell BK415.out 0).trans rfl; have hcz214_1 : w213.cell? ⟨gb415, 1, none⟩ = some (.int .i64 a1_1) := (blk_cell BK415.out 1).trans rfl; have hfz214_0 := blk_frozen BK415.out 0; have hfz214_1 := blk_frozen BK415.out 1; (try clear A204)) | (go_at_call 14; (with_reducible refine (itv_Has.calls a1_0 a1_1 a4 true _ A206.out).mono ?_); rintro e w215 ⟨rfl, hb⟩; have n0_ := Aside0.mk (blk_below (g := gb414) (o := .cells #[.int .i64 a0_0, .int .i64 a0_1] 23 (0, 0)) (bk_ BK414.out) hb); have n1_ := Aside0.mk (blk_below (g := gb415) (o := .cells #[.int .i64 a1_0, .int .i64 a1_1] 23 (0, 0)) (bk_ BK415.out) hb); have n2_ := Aside0.mk (below_step HB_ hb); clear BK414; clear BK415; clear HB; have BK414 := n0_; have BK415 := n1_; have HB := n2_; clear n0_ n1_ n2_; (try clear hb); (try clear hb2); (try clear hk); (try clear hi); have hcz216_0 : w215.cell? ⟨gb414, 0, none⟩ = some (.int .i64 a0_0) := (blk_cell BK414.out 0).trans rfl; have hcz216_1 : w215.cell? ⟨gb414, 1, none⟩ = some (.int .i64 a0_1) := (blk_cell BK414.out 1).trans rfl; have hfz216_0 := blk_frozen BK414.out 0; have hfz216_1 := blk_frozen BK414.out 1; have hcz217_0 : w215.cell? ⟨gb415, 0, none⟩ = some (.int .i64 a1_0) := (blk_cell BK415.out 0).trans rfl; have hcz217_1 : w215.cell? ⟨gb415, 1, none⟩ = some (.int .i64 a1_1) := (blk_cell BK415.out 1).trans rfl; have hfz217_0 := blk_frozen BK415.out 0; have hfz217_1 := blk_frozen BK415.out 1; (try clear A206)) | (go_at_call 25; (with_reducible refine (itv_Plus.calls a0_0 a0_1 a1_0 a1_1 t473 t474 _ A208.out).mono ?_); rintro e w218 ⟨rfl, hb⟩; have n0_ := Aside0.mk (blk_below (g := gb414) (o := .cells #[.int .i64 a0_0, .int .i64 a0_1] 23 (0, 0)) (bk_ BK414.out) hb); have n1_ := Aside0.mk (blk_below (g := gb415) (o := .cells #[.int .i64 a1_0, .int .i64 a1_1] 23 (0, 0)) (bk_ BK415.out) hb); have n2_ := Aside0.mk (below_step HB_ hb); clear BK414; clear BK415; clear HB; have BK414 := n0_; have BK415 := n1_; have HB := n2_; clear n0_ n1_ n2_; (try clear hb); (try clear hb2); (try clear hk); (try clear hi)) | (go_at_call 14; (with_reducible refine (itv_Has.calls t473 t474 (wrap64 (a3 + a4)) t475 _ A209.out).mono ?_); rintro e w219 ⟨rfl, hb⟩; have n0_ := Aside0.mk (blk_below (g := gb414) (o := .cells #[.int .i64 a0_0, .int .i64 a0_1] 23 (0, 0)) (bk_ BK414.out) hb); have n1_ := Aside0.mk (blk_below (g := gb415) (o := .cells #[.int .i64 a1_0, .int .i64 a1_1] 23 (0, 0)) (bk_ BK415.out) hb); have n2_ := Aside0.mk (below_step HB_ hb); clear BK414; clear BK415; clear HB; have BK414 := n0_; have BK415 := n1_; have HB := n2_; clear n0_ n1_ n2_; (try clear hb); (try clear hb2); (try clear hk); (try clear hi)) | (go_at_call 32; (with_reducible refine (warrantorref06_Is.calls (wrap64 (a3 + a4)) t476 _ A210.out).mono ?_); rintro e w' ⟨rfl, ⟨nd, rfl⟩⟩))
                              go_meet
                              case rel => exact ⟨_, ((t475 != t476)), (by first | rfl | (simp; done) | (simp [*]; done)), H', ⟨by have := HJ5.out; have := HJ49.out; have := HJ186.out; first | omega | exact Nat.le_refl _⟩, ⟨by (with_reducible repeat (first | refine blk_drewN ?_ _ | refine blk_drew ?_ | refine blk_alloc ?_ _)); exact BK414.out⟩, ⟨by (with_reducible repeat (first | refine blk_drewN ?_ _ | refine blk_drew ?_ | refine blk_alloc ?_ _)); exact BK415.out⟩, ⟨by repeat (first | (with_reducible first | exact HB.out | apply below_alloc | apply pw_below_drewN | apply below_drew1 | refine below_set ?_ GE414.out | refine below_set ?_ GE415.out) | exact HB.out)⟩⟩
                            · replace c207 := Bool.eq_false_iff.mpr c207
                              subst c207
                              have H1 : (warrantorlaw07_ItvSets.j3 kj186 a2 a3 false a0_0 a0_1) = some r := by rw [if_neg (show ¬ (false = true) by decide)] at H; exact H
                              clear H
                              have H := H1
                              clear H1
                              have H' := Aside0.mk H
                              clear H
                              go_wp2_with (first | ((with_reducible refine gate_callee (f := 32) rfl ?_); refine goesL_ (some 93) rfl rfl Tryd.func32 (by kernel_rfl) rfl #[.int .i64 a3] rfl MP_ ?_; (with_reducible refine (warrantorref06_Is.calls a3 true _ A200.out).mono ?_); rintro e w' ⟨rfl, ⟨nd, rfl⟩⟩; refine ⟨_, rfl, ?_⟩; (try clear A200)) | (go_at_call 32; (with_reducible refine (warrantorref06_Is.calls a4 true _ A202.out).mono ?_); rintro e w' ⟨rfl, ⟨nd, rfl⟩⟩; have hnb220 := NB414_415.out; have hnc220 := NB415_414.out; have hcz221_0 : wc.cell? ⟨gb414, 0, none⟩ = some (.int .i64 a0_0) := (blk_cell BK414.out 0).trans rfl; have hcz221_1 : wc.cell? ⟨gb414, 1, none⟩ = some (.int .i64 a0_1) := (blk_cell BK414.out 1).trans rfl; have hfz221_0 := blk_frozen BK414.out 0; have hfz221_1 := blk_frozen BK414.out 1) | (go_at_call 14; (with_reducible refine (itv_Has.calls a0_0 a0_1 a3 true _ A204.out).mono ?_); rintro e w222 ⟨rfl, hb⟩; have n0_ := Aside0.mk (blk_below (g := gb414) (o := .cells #[.int .i64 a0_0, .int .i64 a0_1] 23 (0, 0)) (bk_ BK414.out) hb); have n1_ := Aside0.mk (blk_below (g := gb415) (o := .cells #[.int .i64 a1_0, .int .i64 a1_1] 23 (0, 0)) (bk_ BK415.out) hb); have n2_ := Aside0.mk (below_step HB_ hb); clear BK414; clear BK415; clear HB; have BK414 := n0_; have BK415 := n1_; have HB := n2_; clear n0_ n1_ n2_; (try clear hb); (try clear hb2); (try clear hk); (try clear hi); have hcz223_0 : w222.cell? ⟨gb415, 0, none⟩ = some (.int .i64 a1_0) := (blk_cell BK415.out 0).trans rfl; have hcz223_1 : w222.cell? ⟨gb415, 1, none⟩ = some (.int .i64 a1_1) := (blk_cell BK415.out 1).trans rfl; have hfz223_0 := blk_frozen BK415.out 0; have hfz223_1 := blk_frozen BK415.out 1; (try clear A204)) | (go_at_call 14; (with_reducible refine (itv_Has.calls a1_0 a1_1 a4 false _ A206.out).mono ?_); rintro e w224 ⟨rfl, hb⟩; have n0_ := Aside0.mk (blk_below (g := gb414) (o := .cells #[.int .i64 a0_0, .int .i64 a0_1] 23 (0, 0)) (bk_ BK414.out) hb); have n1_ := Aside0.mk (blk_below (g := gb415) (o := .cells #[.int .i64 a1_0, .int .i64 a1_1] 23 (0, 0)) (bk_ BK415.out) hb); have n2_ := Aside0.mk (below_step HB_ hb); clear BK414; clear BK415; clear HB; have BK414 := n0_; have BK415 := n1_; have HB := n2_; clear n0_ n1_ n2_; (try clear hb); (try clear hb2); (try clear hk); (try clear hi)))
                              go_meet
                              case rel => exact ⟨_, (false), (by first | rfl | (simp; done) | (simp [*]; done)), H', ⟨by have := HJ5.out; have := HJ49.out; have := HJ186.out; first | omega | exact Nat.le_refl _⟩, ⟨by (with_reducible repeat (first | refine blk_drewN ?_ _ | refine blk_drew ?_ | refine blk_alloc ?_ _)); exact BK414.out⟩, ⟨by (with_reducible repeat (first | refine blk_drewN ?_ _ | refine blk_drew ?_ | refine blk_alloc ?_ _)); exact BK415.out⟩, ⟨by repeat (first | (with_reducible first | exact HB.out | apply below_alloc | apply pw_below_drewN | apply below_drew1 | refine below_set ?_ GE414.out | refine below_set ?_ GE415.out) | exact HB.out)⟩⟩
                          · replace c205 := Bool.eq_false_iff.mpr c205
                            subst c205
                            have H1 : (warrantorlaw07_ItvSets.j3 kj186 a2 a3 false a0_0 a0_1) = some r := by rw [if_neg (show ¬ (false = true) by decide)] at H; exact H
                            clear H
                            have H := H1
                            clear H1
                            have H' := Aside0.mk H
                            clear H
                            go_wp2_with (first | ((with_reducible refine gate_callee (f := 32) rfl ?_); refine goesL_ (some 93) rfl rfl Tryd.func32 (by kernel_rfl) rfl #[.int .i64 a3] rfl MP_ ?_; (with_reducible refine (warrantorref06_Is.calls a3 true _ A200.out).mono ?_); rintro e w' ⟨rfl, ⟨nd, rfl⟩⟩; refine ⟨_, rfl, ?_⟩; (try clear A200)) | (go_at_call 32; (with_reducible refine (warrantorref06_Is.calls a4 true _ A202.out).mono ?_); rintro e w' ⟨rfl, ⟨nd, rfl⟩⟩; have hnb225 := NB414_415.out; have hnc225 := NB415_414.out; have hcz226_0 : wc.cell? ⟨gb414, 0, none⟩ = some (.int .i64 a0_0) := (blk_cell BK414.out 0).trans rfl; have hcz226_1 : wc.cell? ⟨gb414, 1, none⟩ = some (.int .i64 a0_1) := (blk_cell BK414.out 1).trans rfl; have hfz226_0 := blk_frozen BK414.out 0; have hfz226_1 := blk_frozen BK414.out 1) | (go_at_call 14; (with_reducible refine (itv_Has.calls a0_0 a0_1 a3 false _ A204.out).mono ?_); rintro e w227 ⟨rfl, hb⟩; have n0_ := Aside0.mk (blk_below (g := gb414) (o := .cells #[.int .i64 a0_0, .int .i64 a0_1] 23 (0, 0)) (bk_ BK414.out) hb); have n1_ := Aside0.mk (blk_below (g := gb415) (o := .cells #[.int .i64 a1_0, .int .i64 a1_1] 23 (0, 0)) (bk_ BK415.out) hb); have n2_ := Aside0.mk (below_step HB_ hb); clear BK414; clear BK415; clear HB; have BK414 := n0_; have BK415 := n1_; have HB := n2_; clear n0_ n1_ n2_; (try clear hb); (try clear hb2); (try clear hk); (try clear hi)))
                            go_meet
                            case rel => exact ⟨_, (false), (by first | rfl | (simp; done) | (simp [*]; done)), H', ⟨by have := HJ5.out; have := HJ49.out; have := HJ186.out; first | omega | exact Nat.le_refl _⟩, ⟨by (with_reducible repeat (first | refine blk_drewN ?_ _ | refine blk_drew ?_ | refine blk_alloc ?_ _)); exact BK414.out⟩, ⟨by (with_reducible repeat (first | refine blk_drewN ?_ _ | refine blk_drew ?_ | refine blk_alloc ?_ _)); exact BK415.out⟩, ⟨by repeat (first | (with_reducible first | exact HB.out | apply below_alloc | apply pw_below_drewN | apply below_drew1 | refine below_set ?_ GE414.out | refine below_set ?_ GE415.out) | exact HB.out)⟩⟩
                        · replace c203 := Bool.eq_false_iff.mpr c203
                          subst c203
                          have H1 : (warrantorlaw07_ItvSets.j3 kj186 a2 a3 false a0_0 a0_1) = some r := by rw [if_neg (show ¬ (false = true) by decide)] at H; exact H
                          clear H
                          have H := H1
                          clear H1
                          have H' := Aside0.mk H
                          clear H
                          go_wp2_with (first | ((with_reducible refine gate_callee (f := 32) rfl ?_); refine goesL_ (some 93) rfl rfl Tryd.func32 (by kernel_rfl) rfl #[.int .i64 a3] rfl MP_ ?_; (with_reducible refine (warrantorref06_Is.calls a3 true _ A200.out).mono ?_); rintro e w' ⟨rfl, ⟨nd, rfl⟩⟩; refine ⟨_, rfl, ?_⟩; (try clear A200)) | (go_at_call 32; (with_reducible refine (warrantorref06_Is.calls a4 false _ A202.out).mono ?_); rintro e w' ⟨rfl, ⟨nd, rfl⟩⟩))
                          go_meet
                          case rel => exact ⟨_, (false), (by first | rfl | (simp; done) | (simp [*]; done)), H', ⟨by have := HJ5.out; have := HJ49.out; have := HJ186.out; first | omega | exact Nat.le_refl _⟩, ⟨by (with_reducible repeat (first | refine blk_drewN ?_ _ | refine blk_drew ?_ | refine blk_alloc ?_ _)); exact BK414.out⟩, ⟨by (with_reducible repeat (first | refine blk_drewN ?_ _ | refine blk_drew ?_ | refine blk_alloc ?_ _)); exact BK415.out⟩, ⟨by repeat (first | (with_reducible first | exact HB.out | apply below_alloc | apply pw_below_drewN | apply below_drew1 | refine below_set ?_ GE414.out | refine below_set ?_ GE415.out) | exact HB.out)⟩⟩
                      · replace c201 := Bool.eq_false_iff.mpr c201
                        subst c201
                        have H1 : (warrantorlaw07_ItvSets.j3 kj186 a2 a3 false a0_0 a0_1) = some r := by rw [if_neg (show ¬ (false = true) by decide)] at H; exact H
                        clear H
                        have H := H1
                        clear H1
                        have H' := Aside0.mk H
                        clear H
                        go_wp2_with (first | ((with_reducible refine gate_callee (f := 32) rfl ?_); refine goesL_ (some 93) rfl rfl Tryd.func32 (by kernel_rfl) rfl #[.int .i64 a3] rfl MP_ ?_; (with_reducible refine (warrantorref06_Is.calls a3 false _ A200.out).mono ?_); rintro e w' ⟨rfl, ⟨nd, rfl⟩⟩; refine ⟨_, rfl, ?_⟩))
                        go_meet
                        case rel => exact ⟨_, (false), (by first | rfl | (simp; done) | (simp [*]; done)), H', ⟨by have := HJ5.out; have := HJ49.out; have := HJ186.out; first | omega | exact Nat.le_refl _⟩, ⟨by (with_reducible repeat (first | refine blk_drewN ?_ _ | refine blk_drew ?_ | refine blk_alloc ?_ _)); exact BK414.out⟩, ⟨by (with_reducible repeat (first | refine blk_drewN ?_ _ | refine blk_drew ?_ | refine blk_alloc ?_ _)); exact BK415.out⟩, ⟨by repeat (first | (with_reducible first | exact HB.out | apply below_alloc | apply pw_below_drewN | apply below_drew1 | refine below_set ?_ GE414.out | refine below_set ?_ GE415.out) | exact HB.out)⟩⟩
                    case rest =>
                      clear HC199
                      try clear c1
                      try clear c2
                      try clear p2
                      try clear c3
                      try clear c4
                      try clear c5
                      try clear c6
                      try clear p6
                      try clear c8
                      try clear c10
                      try clear c11
                      try clear c13
                      try clear c14
                      try clear c15
                      try clear c16
                      try clear c17
                      try clear c18
                      try clear c19
                      try clear c20
                      try clear c21
                      try clear c22
                      try clear c27
                      try clear c31
                      try clear c32
                      try clear c33
                      try clear c33b0
                      try clear c33b1
                      try clear c33b2
                      try clear c37
                      try clear c37b0
                      try clear c37b1
                      try clear c37b2
                      try clear c49
                      try clear c52
                      try clear c55
                      try clear c57
                      try clear c60
                      try clear c62
                      try clear p64
                      try clear c65
                      try clear c84
                      try clear c100
                      try clear c103
                      try clear c118
                      try clear c130
                      try clear c133
                      try clear c135
                      try clear c138
                      try clear c153
                      try clear c165
                      try clear c168
                      try clear c179
                      try clear c186
                      try clear c189
                      try clear c198
                      try clear c201
                      try clear c203
                      try clear c205
                      try clear c207
                      try clear c211
                      try clear c220
                      try clear c225
                      try clear hcz104_0
                      try clear hcz104_1
                      try clear hcz106_0
                      try clear hcz106_1
                      try clear hcz107_0
                      try clear hcz107_1
                      try clear hcz110_0
                      try clear hcz110_1
                      try clear hcz112_0
                      try clear hcz112_1
                      try clear hcz114_0
                      try clear hcz114_1
                      try clear hcz115_0
                      try clear hcz115_1
                      try clear hcz119_0
                      try clear hcz119_1
                      try clear hcz121_0
                      try clear hcz121_1
                      try clear hcz122_0
                      try clear hcz122_1
                      try clear hcz125_0
                      try clear hcz125_1
                      try clear hcz127_0
                      try clear hcz127_1
                      try clear hcz139_0
                      try clear hcz139_1
                      try clear hcz141_0
                      try clear hcz141_1
                      try clear hcz143_0
                      try clear hcz143_1
                      try clear hcz144_0
                      try clear hcz144_1
                      try clear hcz147_0
                      try clear hcz147_1
                      try clear hcz149_0
                      try clear hcz149_1
                      try clear hcz150_0
                      try clear hcz150_1
                      try clear hcz154_0
                      try clear hcz154_1
                      try clear hcz156_0
                      try clear hcz156_1
                      try clear hcz158_0
                      try clear hcz158_1
                      try clear hcz159_0
                      try clear hcz159_1
                      try clear hcz162_0
                      try clear hcz162_1
                      try clear hcz169_0
                      try clear hcz169_1
                      try clear hcz171_0
                      try clear hcz171_1
                      try clear hcz173_0
                      try clear hcz173_1
                      try clear hcz175_0
                      try clear hcz175_1
                      try clear hcz176_0
                      try clear hcz176_1
                      try clear hcz180_0
                      try clear hcz180_1
                      try clear hcz182_0
                      try clear hcz182_1
                      try clear hcz184_0
                      try clear hcz184_1
                      try clear hcz212_0
                      try clear hcz212_1
                      try clear hcz214_0
                      try clear hcz214_1
                      try clear hcz216_0
                      try clear hcz216_1
                      try clear hcz217_0
                      try clear hcz217_1
                      try clear hcz221_0
                      try clear hcz221_1
                      try clear hcz223_0
                      try clear hcz223_1
                      try clear hcz226_0
                      try clear hcz226_1
                      try clear hcz66_0
                      try clear hcz66_1
                      try clear hcz68_0
                      try clear hcz68_1
                      try clear hcz69_0
                      try clear hcz69_1
                      try clear hcz72_0
                      try clear hcz72_1
                      try clear hcz74_0
                      try clear hcz74_1
                      try clear hcz75_0
                      try clear hcz75_1
                      try clear hcz78_0
                      try clear hcz78_1
                      try clear hcz80_0
                      try clear hcz80_1
                      try clear hcz81_0
                      try clear hcz81_1
                      try clear hcz85_0
                      try clear hcz85_1
                      try clear hcz87_0
                      try clear hcz87_1
                      try clear hcz88_0
                      try clear hcz88_1
                      try clear hcz91_0
                      try clear hcz91_1
                      try clear hcz93_0
                      try clear hcz93_1
                      try clear hcz94_0
                      try clear hcz94_1
                      try clear hcz97_0
                      try clear hcz97_1
                      try clear hfz104_0
                      try clear hfz104_1
                      try clear hfz106_0
                      try clear hfz106_1
                      try clear hfz107_0
                      try clear hfz107_1
                      try clear hfz110_0
                      try clear hfz110_1
                      try clear hfz112_0
                      try clear hfz112_1
                      try clear hfz114_0
                      try clear hfz114_1
                      try clear hfz115_0
                      try clear hfz115_1
                      try clear hfz119_0
                      try clear hfz119_1
                      try clear hfz121_0
                      try clear hfz121_1
                      try clear hfz122_0
                      try clear hfz122_1
                      try clear hfz125_0
                      try clear hfz125_1
                      try clear hfz127_0
                      try clear hfz127_1
                      try clear hfz139_0
                      try clear hfz139_1
                      try clear hfz141_0
                      try clear hfz141_1
                      try clear hfz143_0
                      try clear hfz143_1
                      try clear hfz144_0
                      try clear hfz144_1
                      try clear hfz147_0
                      try clear hfz147_1
                      try clear hfz149_0
                      try clear hfz149_1
                      try clear hfz150_0
                      try clear hfz150_1
                      try clear hfz154_0
                      try clear hfz154_1
                      try clear hfz156_0
                      try clear hfz156_1
                      try clear hfz158_0
                      try clear hfz158_1
                      try clear hfz159_0
                      try clear hfz159_1
                      try clear hfz162_0
                      try clear hfz162_1
                      try clear hfz169_0
                      try clear hfz169_1
                      try clear hfz171_0
                      try clear hfz171_1
                      try clear hfz173_0
                      try clear hfz173_1
                      try clear hfz175_0
                      try clear hfz175_1
                      try clear hfz176_0
                      try clear hfz176_1
                      try clear hfz180_0
                      try clear hfz180_1
                      try clear hfz182_0
                      try clear hfz182_1
                      try clear hfz184_0
                      try clear hfz184_1
                      try clear hfz212_0
                      try clear hfz212_1
                      try clear hfz214_0
                      try clear hfz214_1
                      try clear hfz216_0
                      try clear hfz216_1
                      try clear hfz217_0
                      try clear hfz217_1
                      try clear hfz221_0
                      try clear hfz221_1
                      try clear hfz223_0
                      try clear hfz223_1
                      try clear hfz226_0
                      try clear hfz226_1
                      try clear hfz66_0
                      try clear hfz66_1
                      try clear hfz68_0
                      try clear hfz68_1
                      try clear hfz69_0
                      try clear hfz69_1
                      try clear hfz72_0
                      try clear hfz72_1
                      try clear hfz74_0
                      try clear hfz74_1
                      try clear hfz75_0
                      try clear hfz75_1
                      try clear hfz78_0
                      try clear hfz78_1
                      try clear hfz80_0
                      try clear hfz80_1
                      try clear hfz81_0
                      try clear hfz81_1
                      try clear hfz85_0
                      try clear hfz85_1
                      try clear hfz87_0
                      try clear hfz87_1
                      try clear hfz88_0
                      try clear hfz88_1
                      try clear hfz91_0
                      try clear hfz91_1
                      try clear hfz93_0
                      try clear hfz93_1
                      try clear hfz94_0
                      try clear hfz94_1
                      try clear hfz97_0
                      try clear hfz97_1
                      try clear p2
                      try clear p6
                      try clear p64
                      obtain ⟨kq, x121_198, rfl, HA, HJ198, BK414, BK415, HB⟩ := hcut
                      cases kq with
                      | zero => exact absurd HA.out (by simp [warrantorlaw07_ItvSets.j3])
                      | succ kj198 =>
                        have H := HA.out
                        clear HA
                        simp only [warrantorlaw07_ItvSets.j3] at H
                        by_cases c228 : x121_198 = true
                        · subst c228
                          have H1 : (none) = some r := by rw [if_pos rfl] at H; exact H
                          clear H
                          have H := H1
                          clear H1
                          exact absurd H (by simp)
                        · replace c228 := Bool.eq_false_iff.mpr c228
                          subst c228
                          have H1 : ((warrantorref06_Is.f a3).bind fun t477 => (if t477 = true then ((warrantorref06_Is.f a2).bind fun t478 => (warrantorlaw07_ItvSets.j4 kj198 a2 a3 (!t478) a0_0 a0_1)) else (warrantorlaw07_ItvSets.j4 kj198 a2 a3 true a0_0 a0_1))) = some r := by rw [if_neg (show ¬ (false = true) by decide)] at H; exact H
                          clear H
                          have H := H1
                          clear H1
                          have HC229 := Aside0.mk H
                          clear H
                          go_upto_region 9 with (fail)
                          go_cut [129] (fun v129 wc => ∃ (kq : Nat) (x129_228 : Bool), v129 = .bool x129_228 ∧ Aside0 (warrantorlaw07_ItvSets.j4 kq a2 a3 x129_228 a0_0 a0_1 = some r) ∧ Aside0 (kq ≤ kj198) ∧ Aside0 (wc.heap[gb414]? = some (.cells #[.int .i64 a0_0, .int .i64 a0_1] 23 (0, 0))) ∧ Aside0 (wc.heap[gb415]? = some (.cells #[.int .i64 a1_0, .int .i64 a1_1] 23 (0, 0))) ∧ Aside0 (Below w.heap.size w wc))
                          case first =>
                            have H := HC229.out
                            clear HC229
                            replace H := Option.bind_eq_some_iff.mp H
                            obtain ⟨t477, A2300, H⟩ := H
                            replace H : (if t477 = true then ((warrantorref06_Is.f a2).bind fun t478 => (warrantorlaw07_ItvSets.j4 kj198 a2 a3 (!t478) a0_0 a0_1)) else (warrantorlaw07_ItvSets.j4 kj198 a2 a3 true a0_0 a0_1)) = some r := H
                            have A230 := Aside0.mk A2300
                            clear A2300
                            by_cases c231 : t477 = true
                            · subst c231
                              have H1 : ((warrantorref06_Is.f a2).bind fun t478 => (warrantorlaw07_ItvSets.j4 kj198 a2 a3 (!t478) a0_0 a0_1)) = some r := by rw [if_pos rfl] at H; exact H
                              clear H
                              have H := H1
                              clear H1
                              replace H := Option.bind_eq_some_iff.mp H
                              obtain ⟨t478, A2320, H⟩ := H
                              replace H : (warrantorlaw07_ItvSets.j4 kj198 a2 a3 (!t478) a0_0 a0_1) = some r := H
                              have A232 := Aside0.mk A2320
                              clear A2320
                              have H' := Aside0.mk H
                              clear H
                              go_wp2_with (first | ((with_reducible refine gate_callee (f := 32) rfl ?_); refine goesL_ (some 123) rfl rfl Tryd.func32 (by kernel_rfl) rfl #[.int .i64 a3] rfl MP_ ?_; (with_reducible refine (warrantorref06_Is.calls a3 true _ A230.out).mono ?_); rintro e w' ⟨rfl, ⟨nd, rfl⟩⟩; refine ⟨_, rfl, ?_⟩; (try clear A230)) | (go_at_call 32; (with_reducible refine (warrantorref06_Is.calls a2 t478 _ A232.out).mono ?_); rintro e w' ⟨rfl, ⟨nd, rfl⟩⟩))
                              go_meet
                              case rel => exact ⟨_, (!t478), (by first | rfl | (simp; done) | (simp [*]; done)), H', ⟨by have := HJ5.out; have := HJ49.out; have := HJ186.out; have := HJ198.out; first | omega | exact Nat.le_refl _⟩, ⟨by (with_reducible repeat (first | refine blk_drewN ?_ _ | refine blk_drew ?_ | refine blk_alloc ?_ _)); exact BK414.out⟩, ⟨by (with_reducible repeat (first | refine blk_drewN ?_ _ | refine blk_drew ?_ | refine blk_alloc ?_ _)); exact BK415.out⟩, ⟨by repeat (first | (with_reducible first | exact HB.out | apply below_alloc | apply pw_below_drewN | apply below_drew1 | refine below_set ?_ GE414.out | refine below_set ?_ GE415.out) | exact HB.out)⟩⟩
                            · replace c231 := Bool.eq_false_iff.mpr c231
                              subst c231
                              have H1 : (warrantorlaw07_ItvSets.j4 kj198 a2 a3 true a0_0 a0_1) = some r := by rw [if_neg (show ¬ (false = true) by decide)] at H; exact H
                              clear H
                              have H := H1
                              clear H1
                              have H' := Aside0.mk H
                              clear H
                              go_wp2_with (first | ((with_reducible refine gate_callee (f := 32) rfl ?_); refine goesL_ (some 123) rfl rfl Tryd.func32 (by kernel_rfl) rfl #[.int .i64 a3] rfl MP_ ?_; (with_reducible refine (warrantorref06_Is.calls a3 false _ A230.out).mono ?_); rintro e w' ⟨rfl, ⟨nd, rfl⟩⟩; refine ⟨_, rfl, ?_⟩))
                              go_meet
                              case rel => exact ⟨_, (true), (by first | rfl | (simp; done) | (simp [*]; done)), H', ⟨by have := HJ5.out; have := HJ49.out; have := HJ186.out; have := HJ198.out; first | omega | exact Nat.le_refl _⟩, ⟨by (with_reducible repeat (first | refine blk_drewN ?_ _ | refine blk_drew ?_ | refine blk_alloc ?_ _)); exact BK414.out⟩, ⟨by (with_reducible repeat (first | refine blk_drewN ?_ _ | refine blk_drew ?_ | refine blk_alloc ?_ _)); exact BK415.out⟩, ⟨by repeat (first | (with_reducible first | exact HB.out | apply below_alloc | apply pw_below_drewN | apply below_drew1 | refine below_set ?_ GE414.out | refine below_set ?_ GE415.out) | exact HB.out)⟩⟩
                          case rest =>
                            clear HC229
                            try clear c1
                            try clear c2
                            try clear p2
                            try clear c3
                            try clear c4
                            try clear c5
                            try clear c6
                            try clear p6
                            try clear c8
                            try clear c10
                            try clear c11
                            try clear c13
                            try clear c14
                            try clear c15
                            try clear c16
                            try clear c17
                            try clear c18
                            try clear c19
                            try clear c20
                            try clear c21
                            try clear c22
                            try clear c23
                            try clear c27
                            try clear c31
                            try clear c32
                            try clear c33
                            try clear c33b0
                            try clear c33b1
                            try clear c33b2
                            try clear c37
                            try clear c37b0
                            try clear c37b1
                            try clear c37b2
                            try clear c49
                            try clear c52
                            try clear c55
                            try clear c57
                            try clear c60
                            try clear c62
                            try clear p64
                            try clear c65
                            try clear c84
                            try clear c100
                            try clear c103
                            try clear c118
                            try clear c130
                            try clear c133
                            try clear c135
                            try clear c138
                            try clear c153
                            try clear c165
                            try clear c168
                            try clear c179
                            try clear c186
                            try clear c189
                            try clear c198
                            try clear c201
                            try clear c203
                            try clear c205
                            try clear c207
                            try clear c211
                            try clear c220
                            try clear c225
                            try clear c228
                            try clear c231
                            try clear hcz104_0
                            try clear hcz104_1
                            try clear hcz106_0
                            try clear hcz106_1
                            try clear hcz107_0
                            try clear hcz107_1
                            try clear hcz110_0
                            try clear hcz110_1
                            try clear hcz112_0
                            try clear hcz112_1
                            try clear hcz114_0
                            try clear hcz114_1
                            try clear hcz115_0
                            try clear hcz115_1
                            try clear hcz119_0
                            try clear hcz119_1
                            try clear hcz121_0
                            try clear hcz121_1
                            try clear hcz122_0
                            try clear hcz122_1
                            try clear hcz125_0
                            try clear hcz125_1
                            try clear hcz127_0
                            try clear hcz127_1
                            try clear hcz139_0
                            try clear hcz139_1
                            try clear hcz141_0
                            try clear hcz141_1
                            try clear hcz143_0
                            try clear hcz143_1
                            try clear hcz144_0
                            try clear hcz144_1
                            try clear hcz147_0
                            try clear hcz147_1
                            try clear hcz149_0
                            try clear hcz149_1
                            try clear hcz150_0
                            try clear hcz150_1
                            try clear hcz154_0
                            try clear hcz154_1
                            try clear hcz156_0
                            try clear hcz156_1
                            try clear hcz158_0
                            try clear hcz158_1
                            try clear hcz159_0
                            try clear hcz159_1
                            try clear hcz162_0
                            try clear hcz162_1
                            try clear hcz169_0
                            try clear hcz169_1
                            try clear hcz171_0
                            try clear hcz171_1
                            try clear hcz173_0
                            try clear hcz173_1
                            try clear hcz175_0
                            try clear hcz175_1
                            try clear hcz176_0
                            try clear hcz176_1
                            try clear hcz180_0
                            try clear hcz180_1
                            try clear hcz182_0
                            try clear hcz182_1
                            try clear hcz184_0
                            try clear hcz184_1
                            try clear hcz212_0
                            try clear hcz212_1
                            try clear hcz214_0
                            try clear hcz214_1
                            try clear hcz216_0
                            try clear hcz216_1
                            try clear hcz217_0
                            try clear hcz217_1
                            try clear hcz221_0
                            try clear hcz221_1
                            try clear hcz223_0
                            try clear hcz223_1
                            try clear hcz226_0
                            try clear hcz226_1
                            try clear hcz66_0
                            try clear hcz66_1
                            try clear hcz68_0
                            try clear hcz68_1
                            try clear hcz69_0
                            try clear hcz69_1
                            try clear hcz72_0
                            try clear hcz72_1
                            try clear hcz74_0
                            try clear hcz74_1
                            try clear hcz75_0
                            try clear hcz75_1
                            try clear hcz78_0
                            try clear hcz78_1
                            try clear hcz80_0
                            try clear hcz80_1
                            try clear hcz81_0
                            try clear hcz81_1
                            try clear hcz85_0
                            try clear hcz85_1
                            try clear hcz87_0
                            try clear hcz87_1
                            try clear hcz88_0
                            try clear hcz88_1
                            try clear hcz91_0
                            try clear hcz91_1
                            try clear hcz93_0
                            try clear hcz93_1
                            try clear hcz94_0
                            try clear hcz94_1
                            try clear hcz97_0
                            try clear hcz97_1
                            try clear hfz104_0
                            try clear hfz104_1
                            try clear hfz106_0
                            try clear hfz106_1
                            try clear hfz107_0
                            try clear hfz107_1
                            try clear hfz110_0
                            try clear hfz110_1
                            try clear hfz112_0
                            try clear hfz112_1
                            try clear hfz114_0
                            try clear hfz114_1
                            try clear hfz115_0
                            try clear hfz115_1
                            try clear hfz119_0
                            try clear hfz119_1
                            try clear hfz121_0
                            try clear hfz121_1
                            try clear hfz122_0
                            try clear hfz122_1
                            try clear hfz125_0
                            try clear hfz125_1
                            try clear hfz127_0
                            try clear hfz127_1
                            try clear hfz139_0
                            try clear hfz139_1
                            try clear hfz141_0
                            try clear hfz141_1
                            try clear hfz143_0
                            try clear hfz143_1
                            try clear hfz144_0
                            try clear hfz144_1
                            try clear hfz147_0
                            try clear hfz147_1
                            try clear hfz149_0
                            try clear hfz149_1
                            try clear hfz150_0
                            try clear hfz150_1
                            try clear hfz154_0
                            try clear hfz154_1
                            try clear hfz156_0
                            try clear hfz156_1
                            try clear hfz158_0
                            try clear hfz158_1
                            try clear hfz159_0
                            try clear hfz159_1
                            try clear hfz162_0
                            try clear hfz162_1
                            try clear hfz169_0
                            try clear hfz169_1
                            try clear hfz171_0
                            try clear hfz171_1
                            try clear hfz173_0
                            try clear hfz173_1
                            try clear hfz175_0
                            try clear hfz175_1
                            try clear hfz176_0
                            try clear hfz176_1
                            try clear hfz180_0
                            try clear hfz180_1
                            try clear hfz182_0
                            try clear hfz182_1
                            try clear hfz184_0
                            try clear hfz184_1
                            try clear hfz212_0
                            try clear hfz212_1
                            try clear hfz214_0
                            try clear hfz214_1
                            try clear hfz216_0
                            try clear hfz216_1
                            try clear hfz217_0
                            try clear hfz217_1
                            try clear hfz221_0
                            try clear hfz221_1
                            try clear hfz223_0
                            try clear hfz223_1
                            try clear hfz226_0
                            try clear hfz226_1
                            try clear hfz66_0
                            try clear hfz66_1
                            try clear hfz68_0
                            try clear hfz68_1
                            try clear hfz69_0
                            try clear hfz69_1
                            try clear hfz72_0
                            try clear hfz72_1
                            try clear hfz74_0
                            try clear hfz74_1
                            try clear hfz75_0
                            try clear hfz75_1
                            try clear hfz78_0
                            try clear hfz78_1
                            try clear hfz80_0
                            try clear hfz80_1
                            try clear hfz81_0
                            try clear hfz81_1
                            try clear hfz85_0
                            try clear hfz85_1
                            try clear hfz87_0
                            try clear hfz87_1
                            try clear hfz88_0
                            try clear hfz88_1
                            try clear hfz91_0
                            try clear hfz91_1
                            try clear hfz93_0
                            try clear hfz93_1
                            try clear hfz94_0
                            try clear hfz94_1
                            try clear hfz97_0
                            try clear hfz97_1
                            try clear p2
                            try clear p6
                            try clear p64
                            obtain ⟨kq, x129_228, rfl, HA, HJ228, BK414, BK415, HB⟩ := hcut
                            cases kq with
                            | zero => exact absurd HA.out (by simp [warrantorlaw07_ItvSets.j4])
                            | succ kj228 =>
                              have H := HA.out
                              clear HA
                              simp only [warrantorlaw07_ItvSets.j4] at H
                              by_cases c233 : x129_228 = true
                              · subst c233
                                have H1 : (some true) = some r := by rw [if_pos rfl] at H; exact H
                                clear H
                                have H := H1
                                clear H1
                                obtain rfl := Option.some.inj H
                                go_wp2
                                go_ret
                                exact ⟨by first | rfl | (simp [errW_none, errW_some] <;> rfl) | (simp [*, errW_none, errW_some] <;> rfl), by repeat (first | (with_reducible first | exact HB.out | apply below_alloc | apply pw_below_drewN | apply below_drew1 | refine below_set ?_ GE414.out | refine below_set ?_ GE415.out) | exact HB.out)⟩
                              · replace c233 := Bool.eq_false_iff.mpr c233
                                subst c233
                                have H1 : ((warrantorref06_Is.f (wrap64 (a3 - a2))).bind fun t479 => (if t479 = true then ((itv_Move.f kj228 a0_0 a0_1 a2).bind fun bt480 => ((itv_Has.f bt480.1 bt480.2 a3).bind fun t482 => ((itv_Has.f a0_0 a0_1 (wrap64 (a3 - a2))).bind fun t483 => (some (t482 == t483))))) else (some true))) = some r := by rw [if_neg (show ¬ (false = true) by decide)] at H; exact H
                                clear H
                                have H := H1
                                clear H1
                                replace H := Option.bind_eq_some_iff.mp H
                                obtain ⟨t479, A2340, H⟩ := H
                                replace H : (if t479 = true then ((itv_Move.f kj228 a0_0 a0_1 a2).bind fun bt480 => ((itv_Has.f bt480.1 bt480.2 a3).bind fun t482 => ((itv_Has.f a0_0 a0_1 (wrap64 (a3 - a2))).bind fun t483 => (some (t482 == t483))))) else (some true)) = some r := H
                                have A234 := Aside0.mk A2340
                                clear A2340
                                by_cases c235 : t479 = true
                                · subst c235
                                  have H1 : ((itv_Move.f kj228 a0_0 a0_1 a2).bind fun bt480 => ((itv_Has.f bt480.1 bt480.2 a3).bind fun t482 => ((itv_Has.f a0_0 a0_1 (wrap64 (a3 - a2))).bind fun t483 => (some (t482 == t483))))) = some r := by rw [if_pos rfl] at H; exact H
                                  clear H
                                  have H := H1
                                  clear H1
                                  replace H := Option.bind_eq_some_iff.mp H
                                  obtain ⟨⟨t480, t481⟩, A2360, H⟩ := H
                                  replace H : ((itv_Has.f t480 t481 a3).bind fun t482 => ((itv_Has.f a0_0 a0_1 (wrap64 (a3 - a2))).bind fun t483 => (some (t482 == t483)))) = some r := H
                                  have A236 := Aside0.mk A2360
                                  clear A2360
                                  replace H := Option.bind_eq_some_iff.mp H
                                  obtain ⟨t482, A2370, H⟩ := H
                                  replace H : ((itv_Has.f a0_0 a0_1 (wrap64 (a3 - a2))).bind fun t483 => (some (t482 == t483))) = some r := H
                                  have A237 := Aside0.mk A2370
                                  clear A2370
                                  replace H := Option.bind_eq_some_iff.mp H
                                  obtain ⟨t483, A2380, H⟩ := H
                                  replace H : (some (t482 == t483)) = some r := H
                                  have A238 := Aside0.mk A2380
                                  clear A2380
                                  obtain rfl := Option.some.inj H
                                  try go_wp2
                                  have n0_ := Aside0.mk (blk_drew BK414.out)
                                  have n1_ := Aside0.mk (blk_drew BK415.out)
                                  have n2_ := Aside0.mk (below_drew1 HB.out)
                                  clear BK414
                                  clear BK415
                                  clear HB
                                  have BK414 := n0_
                                  have BK415 := n1_
                                  have HB := n2_
                                  clear n0_ n1_ n2_
                                  refine start_ (n := 19) (S := fun w' => w'.cell? ⟨gb414, 0, none⟩ = some (.int .i64 a0_0) ∧ w'.cell? ⟨gb414, 1, none⟩ = some (.int .i64 a0_1)) (ds := []) #[false, false, false, false, false, false, false, false, false, false, false, false, false, false, false, false, false, false, false] (by kernel_rfl) rfl rfl ⟨(blk_cell BK414.out 0).trans rfl, (blk_cell BK414.out 1).trans rfl⟩ (fun hHeld => ?_); refine with_tabW warrantorlaw07_ItvSets.tab11 warrantorlaw07_ItvSets.bits11 (fun HT_ HW_ => ?_)
                                  generalize wc.drew = w239 at BK414 BK415 HB hHeld ⊢
                                  refine pure_ (i := 0) (N := some 130) (v := ?_) (a' := ?_) #[true, false, false, false, false, false, false, false, false, false, false, false, false, false, false, false, false, false, false] rfl rfl (any_of HT_.out (by kernel_rfl)) (fun _ _ _ h => h) (Or.inl ⟨by rfl, ?_⟩) ?_ ?_
                                  rotate_left
                                  · intro w'
                                    go_simp
                                    with_reducible rfl
                                  rotate_left
                                  · exact AP_
                                  refine pure_ (i := 1) (N := some 131) (v := ?_) (a' := ?_) #[true, true, false, false, false, false, false, false, false, false, false, false, false, false, false, false, false, false, false] rfl rfl (any_of HT_.out (by kernel_rfl)) (fun _ _ _ h => h) (Or.inl ⟨by rfl, ?_⟩) ?_ ?_
                                  rotate_left
                                  · intro w'
                                    go_simp
                                    with_reducible rfl
                                  rotate_left
                                  · exact AP_
                                  refine pure_ (i := 2) (N := some 132) (v := ?_) (a' := ?_) #[true, true, true, false, false, false, false, false, false, false, false, false, false, false, false, false, false, false, false] rfl rfl (any_of HT_.out (by kernel_rfl)) (fun _ _ _ h => h) (Or.inl ⟨by rfl, ?_⟩) ?_ ?_
                                  rotate_left
                                  · intro w'
                                    go_simp
                                    with_reducible rfl
                                  rotate_left
                                  · exact AP_
                                  refine one_ (i := 3) (N := some 133) #[true, true, true, true, false, false, false, false, false, false, false, false, false, false, false, false, false, false, false] rfl rfl (one_of HT_.out (by kernel_rfl)) (by decide) (fun K hK => ?_)
                                  refine goes_ Tryd.func32 (by kernel_rfl) rfl #[.int .i64 (wrap64 (a3 - a2))] (by rfl) rfl rfl MP_ ?_
                                  with_reducible refine (warrantorref06_Is.calls (wrap64 (a3 - a2)) true _ A234.out).mono ?_
                                  rintro e w' ⟨rfl, ⟨nd, rfl⟩⟩
                                  refine ⟨_, rfl, ?_⟩
                                  refine hK.out _ _ ⟨(blk_cell BK414.out 0).trans rfl, (blk_cell BK414.out 1).trans rfl⟩ (fun hHeld => ?_)
                                  clear hK K
                                  refine norm_ (a' := ?_) ?_ ?_
                                  rotate_left
                                  · show Act.put _ (some 133) _ = _
                                    simp only [Act.put, List.setIfInBounds_toArray, List.set_cons_zero, List.set_cons_succ, i64_w, i32_w]
                                    rfl
                                  refine pure_ (i := 4) (N := some 134) (v := ?_) (a' := ?_) #[true, true, true, true, true, false, false, false, false, false, false, false, false, false, false, false, false, false, false] rfl rfl (any_of HT_.out (by kernel_rfl)) (fun _ _ _ h => h) (Or.inl ⟨by rfl, ?_⟩) ?_ ?_
                                  rotate_left
                                  · intro w'
                                    go_simp
                                    with_reducible rfl
                                  rotate_left
                                  · exact AP_
                                  refine pure_ (i := 5) (N := some 135) (v := ?_) (a' := ?_) #[true, true, true, true, true, true, false, false, false, false, false, false, false, false, false, false, false, false, false] rfl rfl (any_of HT_.out (by kernel_rfl)) (fun _ _ _ h => h) (Or.inl ⟨by rfl, ?_⟩) ?_ ?_
                                  rotate_left
                                  · intro w'
                                    go_simp
                                    with_reducible rfl
                                  rotate_left
                                  · exact AP_
                                  refine pure_ (i := 7) (N := some 137) (v := ?_) (a' := ?_) #[true, true, true, true, true, true, false, true, false, false, false, false, false, false, false, false, false, false, false] rfl rfl (any_of HT_.out (by kernel_rfl)) (fun _ _ _ h => h) (Or.inl ⟨by rfl, ?_⟩) ?_ ?_
                                  rotate_left
                                  · intro w'
                                    go_simp
                                    with_reducible rfl
                                  rotate_left
                                  · exact AP_
                                  refine pure_ (i := 9) (N := some 139) (v := ?_) (a' := ?_) #[true, true, true, true, true, true, false, true, false, true, false, false, false, false, false, false, false, false, false] rfl rfl (any_of HT_.out (by kernel_rfl)) (fun _ _ _ h => h) (Or.inl ⟨by rfl, ?_⟩) ?_ ?_
                                  rotate_left
                                  · intro w'
                                    go_simp
                                    with_reducible rfl
                                  rotate_left
                                  · exact AP_
                                  refine pure_ (i := 12) (N := some 142) (v := ?_) (a' := ?_) #[true, true, true, true, true, true, false, true, false, true, false, false, true, false, false, false, false, false, false] rfl rfl (any_of HT_.out (by kernel_rfl)) (fun _ _ _ h => h) (Or.inl ⟨by rfl, ?_⟩) ?_ ?_
                                  rotate_left
                                  · intro w'
                                    go_simp
                                    with_reducible rfl
                                  rotate_left
                                  · exact AP_
                                  refine pure_ (i := 13) (N := some 143) (v := ?_) (a' := ?_) #[true, true, true, true, true, true, false, true, false, true, false, false, true, true, false, false, false, false, false] rfl rfl (any_of HT_.out (by kernel_rfl)) (fun _ _ _ h => h) (Or.inl ⟨by rfl, ?_⟩) ?_ ?_
                                  rotate_left
                                  · intro w'
                                    go_simp
                                    with_reducible rfl
                                  rotate_left
                                  · exact AP_
                                  refine pure_ (i := 14) (N := some 144) (v := ?_) (a' := ?_) #[true, true, true, true, true, true, false, true, false, true, false, false, true, true, true, false, false, false, false] rfl rfl (any_of HT_.out (by kernel_rfl)) (fun _ _ _ h => h) (Or.inl ⟨by rfl, ?_⟩) ?_ ?_
                                  rotate_left
                                  · intro w'
                                    go_simp
                                    with_reducible rfl
                                  rotate_left
                                  · exact AP_
                                  refine take_ (i := 6) (N := some 136) (v := ?_) (a' := ?_) #[true, true, true, true, true, true, true, true, false, true, false, false, true, true, true, false, false, false, false] rfl rfl (take_ofW HT_.out HW_.out (by kernel_rfl)) (fun _ _ _ h => h) (Or.inl ⟨by rfl, ?_⟩) hHeld ?_ ?_
                                  rotate_left
                                  · rintro w' ⟨s0, s1⟩
                                    go_simp
                                    with_reducible rfl
                                  rotate_left
                                  · exact AP_
                                  refine take_ (i := 11) (N := some 141) (v := ?_) (a' := ?_) #[true, true, true, true, true, true, true, true, false, true, false, true, true, true, true, false, false, false, false] rfl rfl (take_ofW HT_.out HW_.out (by kernel_rfl)) (fun _ _ _ h => h) (Or.inl ⟨by rfl, ?_⟩) hHeld ?_ ?_
                                  rotate_left
                                  · rintro w' ⟨s0, s1⟩
                                    go_simp
                                    with_reducible rfl
                                  rotate_left
                                  · exact AP_
                                  refine one_ (i := 8) (N := some 138) #[true, true, true, true, true, true, true, true, true, true, false, true, true, true, true, false, false, false, false] rfl rfl (one_of HT_.out (by kernel_rfl)) (by decide) (fun K hK => ?_)
                                  refine goes_ Tryd.func23 (by kernel_rfl) rfl #[.agg #[.int .i64 a0_0, .int .i64 a0_1], .int .i64 a2] (by rfl) rfl rfl MP_ ?_
                                  with_reducible refine (itv_Move.calls kj228 a0_0 a0_1 a2 t480 t481 _ A236.out).mono ?_
                                  rintro e w240 ⟨rfl, hb⟩
                                  refine ⟨_, rfl, ?_⟩
                                  have n0_ := Aside0.mk (blk_below (g := gb414) (o := .cells #[.int .i64 a0_0, .int .i64 a0_1] 23 (0, 0)) (bk_ BK414.out) hb)
                                  have n1_ := Aside0.mk (blk_below (g := gb415) (o := .cells #[.int .i64 a1_0, .int .i64 a1_1] 23 (0, 0)) (bk_ BK415.out) hb)
                                  have n2_ := Aside0.mk (below_step HB_ hb)
                                  clear BK414
                                  clear BK415
                                  clear HB
                                  have BK414 := n0_
                                  have BK415 := n1_
                                  have HB := n2_
                                  clear n0_ n1_ n2_
                                  (try clear hb)
                                  (try clear hb2)
                                  (try clear hk)
                                  (try clear hi)
                                  refine hK.out _ _ ⟨(blk_cell BK414.out 0).trans rfl, (blk_cell BK414.out 1).trans rfl⟩ (fun hHeld => ?_)
                                  clear hK K
                                  refine norm_ (a' := ?_) ?_ ?_
                                  rotate_left
                                  · show Act.put _ (some 138) _ = _
                                    simp only [Act.put, List.setIfInBounds_toArray, List.set_cons_zero, List.set_cons_succ, i64_w, i32_w]
                                    rfl
                                  refine one_ (i := 10) (N := some 140) #[true, true, true, true, true, true, true, true, true, true, true, true, true, true, true, false, false, false, false] rfl rfl (one_of HT_.out (by kernel_rfl)) (by decide) (fun K hK => ?_)
                                  refine goes_ Tryd.func14 (by kernel_rfl) rfl #[.agg #[.int .i64 t480, .int .i64 t481], .int .i64 a3] (by rfl) rfl rfl MP_ ?_
                                  with_reducible refine (itv_Has.calls t480 t481 a3 t482 _ A237.out).mono ?_
                                  rintro e w241 ⟨rfl, hb⟩
                                  refine ⟨_, rfl, ?_⟩
                                  have n0_ := Aside0.mk (blk_below (g := gb414) (o := .cells #[.int .i64 a0_0, .int .i64 a0_1] 23 (0, 0)) (bk_ BK414.out) hb)
                                  have n1_ := Aside0.mk (blk_below (g := gb415) (o := .cells #[.int .i64 a1_0, .int .i64 a1_1] 23 (0, 0)) (bk_ BK415.out) hb)
                                  have n2_ := Aside0.mk (below_step HB_ hb)
                                  clear BK414
                                  clear BK415
                                  clear HB
                                  have BK414 := n0_
                                  have BK415 := n1_
                                  have HB := n2_
                                  clear n0_ n1_ n2_
                                  (try clear hb)
                                  (try clear hb2)
                                  (try clear hk)
                                  (try clear hi)
                                  refine hK.out _ _ ⟨(blk_cell BK414.out 0).trans rfl, (blk_cell BK414.out 1).trans rfl⟩ (fun hHeld => ?_)
                                  clear hK K
                                  refine norm_ (a' := ?_) ?_ ?_
                                  rotate_left
                                  · show Act.put _ (some 140) _ = _
                                    simp only [Act.put, List.setIfInBounds_toArray, List.set_cons_zero, List.set_cons_succ, i64_w, i32_w]
                                    rfl
                                  refine one_ (i := 15) (N := some 145) #[true, true, true, true, true, true, true, true, true, true, true, true, true, true, true, true, false, false, false] rfl rfl (one_of HT_.out (by kernel_rfl)) (by decide) (fun K hK => ?_)
                                  refine goes_ Tryd.func14 (by kernel_rfl) rfl #[.agg #[.int .i64 a0_0, .int .i64 a0_1], .int .i64 (wrap64 (a3 - a2))] (by rfl) rfl rfl MP_ ?_
                                  with_reducible refine (itv_Has.calls a0_0 a0_1 (wrap64 (a3 - a2)) t483 _ A238.out).mono ?_
                                  rintro e w242 ⟨rfl, hb⟩
                                  refine ⟨_, rfl, ?_⟩
                                  have n0_ := Aside0.mk (blk_below (g := gb414) (o := .cells #[.int .i64 a0_0, .int .i64 a0_1] 23 (0, 0)) (bk_ BK414.out) hb)
                                  have n1_ := Aside0.mk (blk_below (g := gb415) (o := .cells #[.int .i64 a1_0, .int .i64 a1_1] 23 (0, 0)) (bk_ BK415.out) hb)
                                  have n2_ := Aside0.mk (below_step HB_ hb)
                                  clear BK414
                                  clear BK415
                                  clear HB
                                  have BK414 := n0_
                                  have BK415 := n1_
                                  have HB := n2_
                                  clear n0_ n1_ n2_
                                  (try clear hb)
                                  (try clear hb2)
                                  (try clear hk)
                                  (try clear hi)
                                  refine hK.out _ _ ⟨(blk_cell BK414.out 0).trans rfl, (blk_cell BK414.out 1).trans rfl⟩ (fun hHeld => ?_)
                                  clear hK K
                                  refine norm_ (a' := ?_) ?_ ?_
                                  rotate_left
                                  · show Act.put _ (some 145) _ = _
                                    simp only [Act.put, List.setIfInBounds_toArray, List.set_cons_zero, List.set_cons_succ, i64_w, i32_w]
                                    rfl
                                  refine pure_ (i := 16) (N := some 146) (v := ?_) (a' := ?_) #[true, true, true, true, true, true, true, true, true, true, true, true, true, true, true, true, true, false, false] rfl rfl (any_of HT_.out (by kernel_rfl)) (fun _ _ _ h => h) (Or.inl ⟨by rfl, ?_⟩) ?_ ?_
                                  rotate_left
                                  · intro w'
                                    go_simp
                                    with_reducible rfl
                                  rotate_left
                                  · exact AP_
                                  refine pure_ (i := 17) (N := some 147) (v := ?_) (a' := ?_) #[true, true, true, true, true, true, true, true, true, true, true, true, true, true, true, true, true, true, false] rfl rfl (any_of HT_.out (by kernel_rfl)) (fun _ _ _ h => h) (Or.inl ⟨by rfl, ?_⟩) ?_ ?_
                                  rotate_left
                                  · intro w'
                                    go_simp
                                    with_reducible rfl
                                  rotate_left
                                  · exact AP_
                                  refine pure_ (i := 18) (N := some 10) (v := ?_) (a' := ?_) #[true, true, true, true, true, true, true, true, true, true, true, true, true, true, true, true, true, true, true] rfl rfl (any_of HT_.out (by kernel_rfl)) (fun _ _ _ h => h) (Or.inl ⟨by rfl, ?_⟩) ?_ ?_
                                  rotate_left
                                  · intro w'
                                    go_simp
                                    with_reducible rfl
                                  rotate_left
                                  · exact AP_
                                  refine done_ (done_of HT_.out (by kernel_rfl)) ?_
                                  try go_wp2
                                  go_ret
                                  exact ⟨by first | rfl | (simp [errW_none, errW_some] <;> rfl) | (simp [*, errW_none, errW_some] <;> rfl), by repeat (first | (with_reducible first | exact HB.out | apply below_alloc | apply pw_below_drewN | apply below_drew1 | refine below_set ?_ GE414.out | refine below_set ?_ GE415.out) | exact HB.out)⟩
                                · replace c235 := Bool.eq_false_iff.mpr c235
                                  subst c235
                                  have H1 : (some true) = some r := by rw [if_neg (show ¬ (false = true) by decide)] at H; exact H
                                  clear H
                                  have H := H1
                                  clear H1
                                  obtain rfl := Option.some.inj H
                                  try go_wp2
                                  have n0_ := Aside0.mk (blk_drew BK414.out)
                                  have n1_ := Aside0.mk (blk_drew BK415.out)
                                  have n2_ := Aside0.mk (below_drew1 HB.out)
                                  clear BK414
                                  clear BK415
                                  clear HB
                                  have BK414 := n0_
                                  have BK415 := n1_
                                  have HB := n2_
                                  clear n0_ n1_ n2_
                                  refine start_ (n := 19) (S := fun w' => True) (ds := []) #[false, false, false, false, false, false, false, false, false, false, false, false, false, false, false, false, false, false, false] (by kernel_rfl) rfl rfl trivial (fun hHeld => ?_); refine with_tabW warrantorlaw07_ItvSets.tab11 warrantorlaw07_ItvSets.bits11 (fun HT_ HW_ => ?_)
                                  generalize wc.drew = w243 at BK414 BK415 HB hHeld ⊢
                                  refine pure_ (i := 0) (N := some 130) (v := ?_) (a' := ?_) #[true, false, false, false, false, false, false, false, false, false, false, false, false, false, false, false, false, false, false] rfl rfl (any_of HT_.out (by kernel_rfl)) (fun _ _ _ h => h) (Or.inl ⟨by rfl, ?_⟩) ?_ ?_
                                  rotate_left
                                  · intro w'
                                    go_simp
                                    with_reducible rfl
                                  rotate_left
                                  · exact AP_
                                  refine pure_ (i := 1) (N := some 131) (v := ?_) (a' := ?_) #[true, true, false, false, false, false, false, false, false, false, false, false, false, false, false, false, false, false, false] rfl rfl (any_of HT_.out (by kernel_rfl)) (fun _ _ _ h => h) (Or.inl ⟨by rfl, ?_⟩) ?_ ?_
                                  rotate_left
                                  · intro w'
                                    go_simp
                                    with_reducible rfl
                                  rotate_left
                                  · exact AP_
                                  refine pure_ (i := 2) (N := some 132) (v := ?_) (a' := ?_) #[true, true, true, false, false, false, false, false, false, false, false, false, false, false, false, false, false, false, false] rfl rfl (any_of HT_.out (by kernel_rfl)) (fun _ _ _ h => h) (Or.inl ⟨by rfl, ?_⟩) ?_ ?_
                                  rotate_left
                                  · intro w'
                                    go_simp
                                    with_reducible rfl
                                  rotate_left
                                  · exact AP_
                                  refine one_ (i := 3) (N := some 133) #[true, true, true, true, false, false, false, false, false, false, false, false, false, false, false, false, false, false, false] rfl rfl (one_of HT_.out (by kernel_rfl)) (by decide) (fun K hK => ?_)
                                  refine goes_ Tryd.func32 (by kernel_rfl) rfl #[.int .i64 (wrap64 (a3 - a2))] (by rfl) rfl rfl MP_ ?_
                                  with_reducible refine (warrantorref06_Is.calls (wrap64 (a3 - a2)) false _ A234.out).mono ?_
                                  rintro e w' ⟨rfl, ⟨nd, rfl⟩⟩
                                  refine ⟨_, rfl, ?_⟩
                                  refine hK.out _ _ trivial (fun hHeld => ?_)
                                  clear hK K
                                  refine norm_ (a' := ?_) ?_ ?_
                                  rotate_left
                                  · show Act.put _ (some 133) _ = _
                                    simp only [Act.put, List.setIfInBounds_toArray, List.set_cons_zero, List.set_cons_succ, i64_w, i32_w]
                                    rfl
                                  refine pure_ (i := 4) (N := some 134) (v := ?_) (a' := ?_) #[true, true, true, true, true, false, false, false, false, false, false, false, false, false, false, false, false, false, false] rfl rfl (any_of HT_.out (by kernel_rfl)) (fun _ _ _ h => h) (Or.inl ⟨by rfl, ?_⟩) ?_ ?_
                                  rotate_left
                                  · intro w'
                                    go_simp
                                    with_reducible rfl
                                  rotate_left
                                  · exact AP_
                                  refine pure_ (i := 5) (N := some 135) (v := ?_) (a' := ?_) #[true, true, true, true, true, true, false, false, false, false, false, false, false, false, false, false, false, false, false] rfl rfl (any_of HT_.out (by kernel_rfl)) (fun _ _ _ h => h) (Or.inl ⟨by rfl, ?_⟩) ?_ ?_
                                  rotate_left
                                  · intro w'
                                    go_simp
                                    with_reducible rfl
                                  rotate_left
                                  · exact AP_
                                  refine pure_ (i := 6) (N := some 136) (v := undef) (a' := ?_) #[true, true, true, true, true, true, true, false, false, false, false, false, false, false, false, false, false, false, false] rfl rfl (any_of HT_.out (by kernel_rfl)) (fun _ _ _ h => h) (Or.inr ⟨by rfl, rfl⟩) ?_ ?_
                                  rotate_left
                                  · exact AP_
                                  refine pure_ (i := 7) (N := some 137) (v := undef) (a' := ?_) #[true, true, true, true, true, true, true, true, false, false, false, false, false, false, false, false, false, false, false] rfl rfl (any_of HT_.out (by kernel_rfl)) (fun _ _ _ h => h) (Or.inr ⟨by rfl, rfl⟩) ?_ ?_
                                  rotate_left
                                  · exact AP_
                                  refine pure_ (i := 8) (N := some 138) (v := undef) (a' := ?_) #[true, true, true, true, true, true, true, true, true, false, false, false, false, false, false, false, false, false, false] rfl rfl (any_of HT_.out (by kernel_rfl)) (fun _ _ _ h => h) (Or.inr ⟨by rfl, rfl⟩) ?_ ?_
                                  rotate_left
                                  · exact AP_
                                  refine pure_ (i := 9) (N := some 139) (v := undef) (a' := ?_) #[true, true, true, true, true, true, true, true, true, true, false, false, false, false, false, false, false, false, false] rfl rfl (any_of HT_.out (by kernel_rfl)) (fun _ _ _ h => h) (Or.inr ⟨by rfl, rfl⟩) ?_ ?_
                                  rotate_left
                                  · exact AP_
                                  refine pure_ (i := 10) (N := some 140) (v := undef) (a' := ?_) #[true, true, true, true, true, true, true, true, true, true, true, false, false, false, false, false, false, false, false] rfl rfl (any_of HT_.out (by kernel_rfl)) (fun _ _ _ h => h) (Or.inr ⟨by rfl, rfl⟩) ?_ ?_
                                  rotate_left
                                  · exact AP_
                                  refine pure_ (i := 11) (N := some 141) (v := undef) (a' := ?_) #[true, true, true, true, true, true, true, true, true, true, true, true, false, false, false, false, false, false, false] rfl rfl (any_of HT_.out (by kernel_rfl)) (fun _ _ _ h => h) (Or.inr ⟨by rfl, rfl⟩) ?_ ?_
                                  rotate_left
                                  · exact AP_
                                  refine pure_ (i := 12) (N := some 142) (v := undef) (a' := ?_) #[true, true, true, true, true, true, true, true, true, true, true, true, true, false, false, false, false, false, false] rfl rfl (any_of HT_.out (by kernel_rfl)) (fun _ _ _ h => h) (Or.inr ⟨by rfl, rfl⟩) ?_ ?_
                                  rotate_left
                                  · exact AP_
                                  refine pure_ (i := 13) (N := some 143) (v := undef) (a' := ?_) #[true, true, true, true, true, true, true, true, true, true, true, true, true, true, false, false, false, false, false] rfl rfl (any_of HT_.out (by kernel_rfl)) (fun _ _ _ h => h) (Or.inr ⟨by rfl, rfl⟩) ?_ ?_
                                  rotate_left
                                  · exact AP_
                                  refine pure_ (i := 14) (N := some 144) (v := undef) (a' := ?_) #[true, true, true, true, true, true, true, true, true, true, true, true, true, true, true, false, false, false, false] rfl rfl (any_of HT_.out (by kernel_rfl)) (fun _ _ _ h => h) (Or.inr ⟨by rfl, rfl⟩) ?_ ?_
                                  rotate_left
                                  · exact AP_
                                  refine pure_ (i := 15) (N := some 145) (v := undef) (a' := ?_) #[true, true, true, true, true, true, true, true, true, true, true, true, true, true, true, true, false, false, false] rfl rfl (any_of HT_.out (by kernel_rfl)) (fun _ _ _ h => h) (Or.inr ⟨by rfl, rfl⟩) ?_ ?_
                                  rotate_left
                                  · exact AP_
                                  refine pure_ (i := 16) (N := some 146) (v := undef) (a' := ?_) #[true, true, true, true, true, true, true, true, true, true, true, true, true, true, true, true, true, false, false] rfl rfl (any_of HT_.out (by kernel_rfl)) (fun _ _ _ h => h) (Or.inr ⟨by rfl, rfl⟩) ?_ ?_
                                  rotate_left
                                  · exact AP_
                                  refine pure_ (i := 17) (N := some 147) (v := ?_) (a' := ?_) #[true, true, true, true, true, true, true, true, true, true, true, true, true, true, true, true, true, true, false] rfl rfl (any_of HT_.out (by kernel_rfl)) (fun _ _ _ h => h) (Or.inl ⟨by rfl, ?_⟩) ?_ ?_
                                  rotate_left
                                  · intro w'
                                    go_simp
                                    with_reducible rfl
                                  rotate_left
                                  · exact AP_
                                  refine pure_ (i := 18) (N := some 10) (v := ?_) (a' := ?_) #[true, true, true, true, true, true, true, true, true, true, true, true, true, true, true, true, true, true, true] rfl rfl (any_of HT_.out (by kernel_rfl)) (fun _ _ _ h => h) (Or.inl ⟨by rfl, ?_⟩) ?_ ?_
                                  rotate_left
                                  · intro w'
                                    go_simp
                                    with_reducible rfl
                                  rotate_left
                                  · exact AP_
                                  refine done_ (done_of HT_.out (by kernel_rfl)) ?_
                                  try go_wp2
                                  go_ret
                                  exact ⟨by first | rfl | (simp [errW_none, errW_some] <;> rfl) | (simp [*, errW_none, errW_some] <;> rfl), by repeat (first | (with_reducible first | exact HB.out | apply below_alloc | apply pw_below_drewN | apply below_drew1 | refine below_set ?_ GE414.out | refine below_set ?_ GE415.out) | exact HB.out)⟩

/-- THE ONE PURE STATEMENT of warrantorlaw07_ItvSets: yours. -/
def warrantorlaw07_ItvSets.Pure : Prop := ∀ (a0_0 : Int) (a0_1 : Int) (a1_0 : Int) (a1_1 : Int) (a2 : Int) (a3 : Int) (a4 : Int), (Lit.int .i64 a0_0).wf = true → (Lit.int .i64 a0_1).wf = true → (Lit.int .i64 a1_0).wf = true → (Lit.int .i64 a1_1).wf = true → (Lit.int .i64 a2).wf = true → (Lit.int .i64 a3).wf = true → (Lit.int .i64 a4).wf = true → ∃ k, warrantorlaw07_ItvSets.f k a0_0 a0_1 a1_0 a1_1 a2 a3 a4 = some true
theorem warrantorlaw07_ItvSets.walk (P : warrantorlaw07_ItvSets.Pure) (a0_0 : Int) (a0_1 : Int) (a1_0 : Int) (a1_1 : Int) (a2 : Int) (a3 : Int) (a4 : Int) (w : World) (htab : TB w) (w0_0 : (Lit.int .i64 a0_0).wf = true) (w0_1 : (Lit.int .i64 a0_1).wf = true) (w1_0 : (Lit.int .i64 a1_0).wf = true) (w1_1 : (Lit.int .i64 a1_1).wf = true) (w2 : (Lit.int .i64 a2).wf = true) (w3 : (Lit.int .i64 a3).wf = true) (w4 : (Lit.int .i64 a4).wf = true) :
    Calls Tryd.prog 4 #[.agg #[.int .i64 a0_0, .int .i64 a0_1], .agg #[.int .i64 a1_0, .int .i64 a1_1], .int .i64 a2, .int .i64 a3, .int .i64 a4] w fun e w' => e = .returned (.bool true) ∧ Below w.heap.size w w' := by
  obtain ⟨k, h⟩ := P a0_0 a0_1 a1_0 a1_1 a2 a3 a4 w0_0 w0_1 w1_0 w1_1 w2 w3 w4
  refine (warrantorlaw07_ItvSets.calls k a0_0 a0_1 a1_0 a1_1 a2 a3 a4 true w htab h).mono ?_
  rintro e w' ⟨rfl, hd⟩
  exact ⟨rfl, hd⟩

end Go.Proofs.YtkailfmehmgolaaDoor.R
