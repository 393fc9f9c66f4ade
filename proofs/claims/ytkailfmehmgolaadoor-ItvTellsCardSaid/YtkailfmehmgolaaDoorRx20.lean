-- WRITTEN BY this session's program wip/ext.py, in print.py's manner
import Derived.Test.YtkailfmehmgolaaDoorRx0
import Derived.Test.YtkailfmehmgolaaDoorRx1
import Derived.Test.YtkailfmehmgolaaDoorRx3
import Derived.Test.YtkailfmehmgolaaDoorRx4
import Derived.Test.YtkailfmehmgolaaDoorRx5
import Derived.Test.YtkailfmehmgolaaDoorRx6
import Derived.Test.YtkailfmehmgolaaDoorRx7
import Derived.Test.YtkailfmehmgolaaDoorRx14
import Derived.Test.YtkailfmehmgolaaDoorRx15
import Derived.Test.YtkailfmehmgolaaDoorRx16
import Derived.Test.YtkailfmehmgolaaDoorRx17
import Derived.Test.YtkailfmehmgolaaDoorRx18
import Derived.Test.YtkailfmehmgolaaDoorRx19
namespace Go.Proofs.YtkailfmehmgolaaDoor.R
open Go.RowKit Go.Proofs.YtkailfmehmgolaaDoorW.PrintWords Go.Proofs.YtkailfmehmgolaaDoorW.PrintLast Go.Proofs.YtkailfmehmgolaaDoorW.PrintMore
attribute [local go_sem] max2_int min2_int max_two min_two max_three min_three max_four min_four   -- for this text's walks alone
set_option linter.unusedVariables false
set_option linter.unusedSimpArgs false

attribute [local go_sem high] eqA23
/-! ### warrantorlaw07_ItvTells: function 3 -/
def warrantorlaw07_ItvTells.f (k : Nat) (a0_0 : Int) (a0_1 : Int) (a1_0 : Int) (a1_1 : Int) (a2 : Int) : Option (Bool) := (warrantorlaw07_lives.f k).bind fun t371 => (if t371 = true then ((itv_Of.f a0_0 a0_1).bind fun bt372 => ((warrantorref07_Plain.f k a0_0 a0_1).bind fun bt374 => (if (!(bt372.1 == bt374.1) || (!(bt372.2 == bt374.2))) = true then (none) else ((itv_Is.f a0_0 a0_1).bind fun t376 => ((warrantorref07_Plain.f k a0_0 a0_1).bind fun bt377 => (if (t376 != (bt377.1 == a0_0 && (bt377.2 == a0_1))) = true then (none) else ((itv_Size.f a0_0 a0_1).bind fun t379 => ((warrantorref07_Size.f k a0_0 a0_1).bind fun t380 => (if t379 = t380 then ((itv_Has.f a0_0 a0_1 a2).bind fun t381 => ((warrantorref07_Has.f a0_0 a0_1 a2).bind fun t382 => (if (t381 != t382) = true then (none) else ((itv_Leq.f a0_0 a0_1 a1_0 a1_1).bind fun t383 => ((warrantorref07_Leq.f k a0_0 a0_1 a1_0 a1_1).bind fun t384 => (if (t383 != t384) = true then (none) else ((itv_Same.f a0_0 a0_1 a1_0 a1_1).bind fun t385 => ((warrantorref07_Plain.f k a0_0 a0_1).bind fun bt386 => ((warrantorref07_Plain.f k a1_0 a1_1).bind fun bt388 => (if (t385 != (bt386.1 == bt388.1 && (bt386.2 == bt388.2))) = true then (none) else ((itv_Join.f a0_0 a0_1 a1_0 a1_1).bind fun bt390 => ((warrantorref07_Join.f k a0_0 a0_1 a1_0 a1_1).bind fun bt392 => (if (!(bt390.1 == bt392.1) || (!(bt390.2 == bt392.2))) = true then (none) else ((itv_Meet.f a0_0 a0_1 a1_0 a1_1).bind fun bt394 => ((warrantorref07_Meet.f k a0_0 a0_1 a1_0 a1_1).bind fun bt396 => (if (!(bt394.1 == bt396.1) || (!(bt394.2 == bt396.2))) = true then (none) else ((itv_Move.f k a0_0 a0_1 a2).bind fun bt398 => ((warrantorref07_Move.f k a0_0 a0_1 a2).bind fun bt400 => (if (bt398.1 == bt400.1 && (bt398.2 == bt400.2)) = true then ((itv_Plus.f a0_0 a0_1 a1_0 a1_1).bind fun bt402 => ((warrantorref07_Plus.f k a0_0 a0_1 a1_0 a1_1).bind fun bt404 => (if (bt402.1 == bt404.1 && (bt402.2 == bt404.2)) = true then ((itv_Neg.f a0_0 a0_1).bind fun bt406 => ((warrantorref07_Neg.f k a0_0 a0_1).bind fun bt408 => (if (bt406.1 == bt408.1 && (bt406.2 == bt408.2)) = true then ((itv_Widen.f a0_0 a0_1 a1_0 a1_1).bind fun bt410 => ((warrantorref07_Widen.f k a0_0 a0_1 a1_0 a1_1).bind fun bt412 => (some (bt410.1 == bt412.1 && (bt410.2 == bt412.2))))) else (none)))) else (none)))) else (none)))))))))))))))))))) else (none)))))))))) else (none))
theorem warrantorlaw07_ItvTells.mono : ∀ a0 a1 a2 a3 a4 k, LeO (warrantorlaw07_ItvTells.f k a0 a1 a2 a3 a4) (warrantorlaw07_ItvTells.f (k + 1) a0 a1 a2 a3 a4) := by
  intro a0 a1 a2 a3 a4 k
  unfold warrantorlaw07_ItvTells.f
  repeat' first
      | (with_reducible exact itv_Move.mono _ _ _ _)
      | (with_reducible exact warrantorlaw07_lives.mono _)
      | (with_reducible exact warrantorref07_Join.mono _ _ _ _ _)
      | (with_reducible exact warrantorref07_Leq.mono _ _ _ _ _)
      | (with_reducible exact warrantorref07_Meet.mono _ _ _ _ _)
      | (with_reducible exact warrantorref07_Move.mono _ _ _ _)
      | (with_reducible exact warrantorref07_Neg.mono _ _ _)
      | (with_reducible exact warrantorref07_Plain.mono _ _ _)
      | (with_reducible exact warrantorref07_Plus.mono _ _ _ _ _)
      | (with_reducible exact warrantorref07_Size.mono _ _ _)
      | (with_reducible exact warrantorref07_Widen.mono _ _ _ _ _)
      | (with_reducible exact LeO.refl _)
      | (with_reducible exact LeO.none _)
      | (with_reducible refine LeO.ite ?_ ?_)
      | (with_reducible refine LeO.bind ?_ (fun _ => ?_))
      | exact itv_Move.mono _ _ _ _
      | exact warrantorlaw07_lives.mono _
      | exact warrantorref07_Join.mono _ _ _ _ _
      | exact warrantorref07_Leq.mono _ _ _ _ _
      | exact warrantorref07_Meet.mono _ _ _ _ _
      | exact warrantorref07_Move.mono _ _ _ _
      | exact warrantorref07_Neg.mono _ _ _
      | exact warrantorref07_Plain.mono _ _ _
      | exact warrantorref07_Plus.mono _ _ _ _ _
      | exact warrantorref07_Size.mono _ _ _
      | exact warrantorref07_Widen.mono _ _ _ _ _
      | exact LeO.none _
      | refine LeO.ite ?_ ?_
      | refine LeO.bind ?_ (fun _ => ?_)
def warrantorlaw07_ItvTells.T1 : Bool × List (List Nat × List Nat) := (true, [([], []), ([0], [0]), ([1, 0], [1]), ([2], [2]), ([3, 2], [2, 3]), ([2], [2]), ([5, 2], [2, 5]), ([4, 6, 2, 2], [2, 4, 6]), ([2], [2]), ([8, 7, 2], [2, 8]), ([7, 9, 2], [2, 7, 9]), ([2, 10], [2, 10]), ([11, 9], [11]), ([12], [12]), ([13, 12, 12], [12, 13]), ([12], [12]), ([15, 14, 12], [12, 15]), ([12], [12]), ([16, 17, 12], [12, 16, 17]), ([14, 18, 12], [12, 14, 18]), ([12, 19], [12, 19]), ([20, 16], [20]), ([21], [21]), ([22, 21, 21], [21, 22]), ([21], [21]), ([24, 23, 21], [21, 24]), ([23, 25, 21], [21, 23, 25]), ([21, 26], [21, 26]), ([27, 25], [27]), ([28], [28]), ([28], [28]), ([29, 30, 28, 28], [28, 29, 30]), ([28], [28]), ([28], [28]), ([32, 33, 31, 28], [28, 32, 33]), ([31, 34, 28], [28, 31, 34]), ([28, 35], [28, 35])])
def warrantorlaw07_ItvTells.B1 : List Nat := [0, 1, 3, 7, 15, 7, 39, 127, 7, 511, 1023, 2047, 4095, 8191, 16383, 8191, 65535, 8191, 262143, 524287, 1048575, 2097151, 4194303, 8388607, 4194303, 33554431, 67108863, 134217727, 268435455, 536870911, 536870911, 2147483647, 536870911, 536870911, 17179869183, 34359738367, 68719476735]
theorem warrantorlaw07_ItvTells.tab1 : rtab .any (opsOf Tryd.f3 1) = warrantorlaw07_ItvTells.T1 := by kernel_rfl
theorem warrantorlaw07_ItvTells.bits1 : waitsOk warrantorlaw07_ItvTells.T1.2 warrantorlaw07_ItvTells.B1 = true := by kernel_rfl
def warrantorlaw07_ItvTells.T3 : Bool × List (List Nat × List Nat) := (true, [([], []), ([], []), ([0, 1], [0, 1]), ([], []), ([], []), ([3, 4, 2], [3, 4]), ([2, 5], [2, 5]), ([6, 5], [6]), ([7], [7]), ([7], [7]), ([8, 9, 7, 7], [7, 8, 9]), ([7], [7]), ([11, 10, 7], [7, 11]), ([7], [7]), ([13, 12, 7], [7, 13]), ([12, 14, 7], [7, 12, 14]), ([10, 15, 7], [7, 10, 15]), ([7, 16], [7, 16]), ([17, 14], [17]), ([18], [18]), ([18], [18]), ([19, 20, 18, 18], [18, 19, 20]), ([18], [18]), ([18], [18]), ([22, 23, 21, 18], [18, 22, 23]), ([21, 24, 18], [18, 21, 24]), ([18, 25], [18, 25]), ([26, 24], [26]), ([27], [27]), ([27], [27]), ([28, 29, 27, 27], [27, 28, 29]), ([27], [27]), ([27], [27]), ([31, 32, 30, 27], [27, 31, 32]), ([30, 33, 27], [27, 30, 33]), ([27, 34], [27, 34])])
def warrantorlaw07_ItvTells.B3 : List Nat := [0, 0, 3, 0, 0, 31, 63, 127, 255, 255, 1023, 255, 4095, 255, 16383, 32767, 65535, 131071, 262143, 524287, 524287, 2097151, 524287, 524287, 16777215, 33554431, 67108863, 134217727, 268435455, 268435455, 1073741823, 268435455, 268435455, 8589934591, 17179869183, 34359738367]
theorem warrantorlaw07_ItvTells.tab3 : rtab .any (opsOf Tryd.f3 3) = warrantorlaw07_ItvTells.T3 := by kernel_rfl
theorem warrantorlaw07_ItvTells.bits3 : waitsOk warrantorlaw07_ItvTells.T3.2 warrantorlaw07_ItvTells.B3 = true := by kernel_rfl
def warrantorlaw07_ItvTells.T5 : Bool × List (List Nat × List Nat) := (true, [([], []), ([], []), ([0, 1], [0, 1]), ([], []), ([], []), ([3, 4, 2], [3, 4]), ([2, 5], [2, 5]), ([6, 5], [6]), ([7], [7]), ([7], [7]), ([8, 9, 7, 7], [7, 8, 9]), ([7], [7]), ([7], [7]), ([11, 12, 10, 7], [7, 11, 12]), ([10, 13, 7], [7, 10, 13]), ([7, 14], [7, 14]), ([15, 13], [15]), ([16], [16]), ([17, 16, 16], [16, 17]), ([16], [16]), ([19, 18, 16], [16, 19]), ([18, 20, 16], [16, 18, 20]), ([16, 21], [16, 21]), ([22, 20], [22]), ([23], [23]), ([23], [23]), ([24, 25, 23, 23], [23, 24, 25]), ([23], [23]), ([23], [23]), ([27, 28, 26, 23], [23, 27, 28]), ([26, 29, 23], [23, 26, 29]), ([23, 30], [23, 30]), ([31, 29, 0, 1, 2, 3, 4, 5, 6, 7, 8, 9, 10, 11, 12, 13, 14, 15, 16, 17, 18, 19, 20, 21, 22, 23, 24, 25, 26, 27, 28, 29, 30, 31], [31])])
def warrantorlaw07_ItvTells.B5 : List Nat := [0, 0, 3, 0, 0, 31, 63, 127, 255, 255, 1023, 255, 255, 8191, 16383, 32767, 65535, 131071, 262143, 131071, 1048575, 2097151, 4194303, 8388607, 16777215, 16777215, 67108863, 16777215, 16777215, 536870911, 1073741823, 2147483647, 4294967295]
theorem warrantorlaw07_ItvTells.tab5 : rtab .any (opsOf Tryd.f3 5) = warrantorlaw07_ItvTells.T5 := by kernel_rfl
theorem warrantorlaw07_ItvTells.bits5 : waitsOk warrantorlaw07_ItvTells.T5.2 warrantorlaw07_ItvTells.B5 = true := by kernel_rfl
set_option maxHeartbeats 8000000 in
set_option maxRecDepth 100000 in
theorem warrantorlaw07_ItvTells.calls (k : Nat) (a0_0 : Int) (a0_1 : Int) (a1_0 : Int) (a1_1 : Int) (a2 : Int) (r : Bool) (w : World) (htab : TB w) (h : warrantorlaw07_ItvTells.f k a0_0 a0_1 a1_0 a1_1 a2 = some r) :
    Calls Tryd.prog 3 #[.agg #[.int .i64 a0_0, .int .i64 a0_1], .agg #[.int .i64 a1_0, .int .i64 a1_1], .int .i64 a2] w fun e w' => e = .returned (.bool r) ∧ Below w.heap.size w w' := by
  have HTB := Aside0.mk htab
  clear htab
  have hu23 := Tryd.underlying23
  have HB := Aside0.mk (Below.refl w.heap.size w)
  have H : ((warrantorlaw07_lives.f k).bind fun t371 => (if t371 = true then ((itv_Of.f a0_0 a0_1).bind fun bt372 => ((warrantorref07_Plain.f k a0_0 a0_1).bind fun bt374 => (if (!(bt372.1 == bt374.1) || (!(bt372.2 == bt374.2))) = true then (none) else ((itv_Is.f a0_0 a0_1).bind fun t376 => ((warrantorref07_Plain.f k a0_0 a0_1).bind fun bt377 => (if (t376 != (bt377.1 == a0_0 && (bt377.2 == a0_1))) = true then (none) else ((itv_Size.f a0_0 a0_1).bind fun t379 => ((warrantorref07_Size.f k a0_0 a0_1).bind fun t380 => (if t379 = t380 then ((itv_Has.f a0_0 a0_1 a2).bind fun t381 => ((warrantorref07_Has.f a0_0 a0_1 a2).bind fun t382 => (if (t381 != t382) = true then (none) else ((itv_Leq.f a0_0 a0_1 a1_0 a1_1).bind fun t383 => ((warrantorref07_Leq.f k a0_0 a0_1 a1_0 a1_1).bind fun t384 => (if (t383 != t384) = true then (none) else ((itv_Same.f a0_0 a0_1 a1_0 a1_1).bind fun t385 => ((warrantorref07_Plain.f k a0_0 a0_1).bind fun bt386 => ((warrantorref07_Plain.f k a1_0 a1_1).bind fun bt388 => (if (t385 != (bt386.1 == bt388.1 && (bt386.2 == bt388.2))) = true then (none) else ((itv_Join.f a0_0 a0_1 a1_0 a1_1).bind fun bt390 => ((warrantorref07_Join.f k a0_0 a0_1 a1_0 a1_1).bind fun bt392 => (if (!(bt390.1 == bt392.1) || (!(bt390.2 == bt392.2))) = true then (none) else ((itv_Meet.f a0_0 a0_1 a1_0 a1_1).bind fun bt394 => ((warrantorref07_Meet.f k a0_0 a0_1 a1_0 a1_1).bind fun bt396 => (if (!(bt394.1 == bt396.1) || (!(bt394.2 == bt396.2))) = true then (none) else ((itv_Move.f k a0_0 a0_1 a2).bind fun bt398 => ((warrantorref07_Move.f k a0_0 a0_1 a2).bind fun bt400 => (if (bt398.1 == bt400.1 && (bt398.2 == bt400.2)) = true then ((itv_Plus.f a0_0 a0_1 a1_0 a1_1).bind fun bt402 => ((warrantorref07_Plus.f k a0_0 a0_1 a1_0 a1_1).bind fun bt404 => (if (bt402.1 == bt404.1 && (bt402.2 == bt404.2)) = true then ((itv_Neg.f a0_0 a0_1).bind fun bt406 => ((warrantorref07_Neg.f k a0_0 a0_1).bind fun bt408 => (if (bt406.1 == bt408.1 && (bt406.2 == bt408.2)) = true then ((itv_Widen.f a0_0 a0_1 a1_0 a1_1).bind fun bt410 => ((warrantorref07_Widen.f k a0_0 a0_1 a1_0 a1_1).bind fun bt412 => (some (bt410.1 == bt412.1 && (bt410.2 == bt412.2))))) else (none)))) else (none)))) else (none)))))))))))))))))))) else (none)))))))))) else (none))) = some r := h
  clear h
  replace H := Option.bind_eq_some_iff.mp H
  obtain ⟨t371, A40, H⟩ := H
  replace H : (if t371 = true then ((itv_Of.f a0_0 a0_1).bind fun bt372 => ((warrantorref07_Plain.f k a0_0 a0_1).bind fun bt374 => (if (!(bt372.1 == bt374.1) || (!(bt372.2 == bt374.2))) = true then (none) else ((itv_Is.f a0_0 a0_1).bind fun t376 => ((warrantorref07_Plain.f k a0_0 a0_1).bind fun bt377 => (if (t376 != (bt377.1 == a0_0 && (bt377.2 == a0_1))) = true then (none) else ((itv_Size.f a0_0 a0_1).bind fun t379 => ((warrantorref07_Size.f k a0_0 a0_1).bind fun t380 => (if t379 = t380 then ((itv_Has.f a0_0 a0_1 a2).bind fun t381 => ((warrantorref07_Has.f a0_0 a0_1 a2).bind fun t382 => (if (t381 != t382) = true then (none) else ((itv_Leq.f a0_0 a0_1 a1_0 a1_1).bind fun t383 => ((warrantorref07_Leq.f k a0_0 a0_1 a1_0 a1_1).bind fun t384 => (if (t383 != t384) = true then (none) else ((itv_Same.f a0_0 a0_1 a1_0 a1_1).bind fun t385 => ((warrantorref07_Plain.f k a0_0 a0_1).bind fun bt386 => ((warrantorref07_Plain.f k a1_0 a1_1).bind fun bt388 => (if (t385 != (bt386.1 == bt388.1 && (bt386.2 == bt388.2))) = true then (none) else ((itv_Join.f a0_0 a0_1 a1_0 a1_1).bind fun bt390 => ((warrantorref07_Join.f k a0_0 a0_1 a1_0 a1_1).bind fun bt392 => (if (!(bt390.1 == bt392.1) || (!(bt390.2 == bt392.2))) = true then (none) else ((itv_Meet.f a0_0 a0_1 a1_0 a1_1).bind fun bt394 => ((warrantorref07_Meet.f k a0_0 a0_1 a1_0 a1_1).bind fun bt396 => (if (!(bt394.1 == bt396.1) || (!(bt394.2 == bt396.2))) = true then (none) else ((itv_Move.f k a0_0 a0_1 a2).bind fun bt398 => ((warrantorref07_Move.f k a0_0 a0_1 a2).bind fun bt400 => (if (bt398.1 == bt400.1 && (bt398.2 == bt400.2)) = true then ((itv_Plus.f a0_0 a0_1 a1_0 a1_1).bind fun bt402 => ((warrantorref07_Plus.f k a0_0 a0_1 a1_0 a1_1).bind fun bt404 => (if (bt402.1 == bt404.1 && (bt402.2 == bt404.2)) = true then ((itv_Neg.f a0_0 a0_1).bind fun bt406 => ((warrantorref07_Neg.f k a0_0 a0_1).bind fun bt408 => (if (bt406.1 == bt408.1 && (bt406.2 == bt408.2)) = true then ((itv_Widen.f a0_0 a0_1 a1_0 a1_1).bind fun bt410 => ((warrantorref07_Widen.f k a0_0 a0_1 a1_0 a1_1).bind fun bt412 => (some (bt410.1 == bt412.1 && (bt410.2 == bt412.2))))) else (none)))) else (none)))) else (none)))))))))))))))))))) else (none)))))))))) else (none)) = some r := H
  have A4 := Aside0.mk A40
  clear A40
  by_cases c5 : t371 = true
  · subst c5
    have H1 : ((itv_Of.f a0_0 a0_1).bind fun bt372 => ((warrantorref07_Plain.f k a0_0 a0_1).bind fun bt374 => (if (!(bt372.1 == bt374.1) || (!(bt372.2 == bt374.2))) = true then (none) else ((itv_Is.f a0_0 a0_1).bind fun t376 => ((warrantorref07_Plain.f k a0_0 a0_1).bind fun bt377 => (if (t376 != (bt377.1 == a0_0 && (bt377.2 == a0_1))) = true then (none) else ((itv_Size.f a0_0 a0_1).bind fun t379 => ((warrantorref07_Size.f k a0_0 a0_1).bind fun t380 => (if t379 = t380 then ((itv_Has.f a0_0 a0_1 a2).bind fun t381 => ((warrantorref07_Has.f a0_0 a0_1 a2).bind fun t382 => (if (t381 != t382) = true then (none) else ((itv_Leq.f a0_0 a0_1 a1_0 a1_1).bind fun t383 => ((warrantorref07_Leq.f k a0_0 a0_1 a1_0 a1_1).bind fun t384 => (if (t383 != t384) = true then (none) else ((itv_Same.f a0_0 a0_1 a1_0 a1_1).bind fun t385 => ((warrantorref07_Plain.f k a0_0 a0_1).bind fun bt386 => ((warrantorref07_Plain.f k a1_0 a1_1).bind fun bt388 => (if (t385 != (bt386.1 == bt388.1 && (bt386.2 == bt388.2))) = true then (none) else ((itv_Join.f a0_0 a0_1 a1_0 a1_1).bind fun bt390 => ((warrantorref07_Join.f k a0_0 a0_1 a1_0 a1_1).bind fun bt392 => (if (!(bt390.1 == bt392.1) || (!(bt390.2 == bt392.2))) = true then (none) else ((itv_Meet.f a0_0 a0_1 a1_0 a1_1).bind fun bt394 => ((warrantorref07_Meet.f k a0_0 a0_1 a1_0 a1_1).bind fun bt396 => (if (!(bt394.1 == bt396.1) || (!(bt394.2 == bt396.2))) = true then (none) else ((itv_Move.f k a0_0 a0_1 a2).bind fun bt398 => ((warrantorref07_Move.f k a0_0 a0_1 a2).bind fun bt400 => (if (bt398.1 == bt400.1 && (bt398.2 == bt400.2)) = true then ((itv_Plus.f a0_0 a0_1 a1_0 a1_1).bind fun bt402 => ((warrantorref07_Plus.f k a0_0 a0_1 a1_0 a1_1).bind fun bt404 => (if (bt402.1 == bt404.1 && (bt402.2 == bt404.2)) = true then ((itv_Neg.f a0_0 a0_1).bind fun bt406 => ((warrantorref07_Neg.f k a0_0 a0_1).bind fun bt408 => (if (bt406.1 == bt408.1 && (bt406.2 == bt408.2)) = true then ((itv_Widen.f a0_0 a0_1 a1_0 a1_1).bind fun bt410 => ((warrantorref07_Widen.f k a0_0 a0_1 a1_0 a1_1).bind fun bt412 => (some (bt410.1 == bt412.1 && (bt410.2 == bt412.2))))) else (none)))) else (none)))) else (none)))))))))))))))))))) else (none)))))))))) = some r := by rw [if_pos rfl] at H; exact H
    clear H
    have H := H1
    clear H1
    replace H := Option.bind_eq_some_iff.mp H
    obtain ⟨⟨t372, t373⟩, A60, H⟩ := H
    replace H : ((warrantorref07_Plain.f k a0_0 a0_1).bind fun bt374 => (if (!(t372 == bt374.1) || (!(t373 == bt374.2))) = true then (none) else ((itv_Is.f a0_0 a0_1).bind fun t376 => ((warrantorref07_Plain.f k a0_0 a0_1).bind fun bt377 => (if (t376 != (bt377.1 == a0_0 && (bt377.2 == a0_1))) = true then (none) else ((itv_Size.f a0_0 a0_1).bind fun t379 => ((warrantorref07_Size.f k a0_0 a0_1).bind fun t380 => (if t379 = t380 then ((itv_Has.f a0_0 a0_1 a2).bind fun t381 => ((warrantorref07_Has.f a0_0 a0_1 a2).bind fun t382 => (if (t381 != t382) = true then (none) else ((itv_Leq.f a0_0 a0_1 a1_0 a1_1).bind fun t383 => ((warrantorref07_Leq.f k a0_0 a0_1 a1_0 a1_1).bind fun t384 => (if (t383 != t384) = true then (none) else ((itv_Same.f a0_0 a0_1 a1_0 a1_1).bind fun t385 => ((warrantorref07_Plain.f k a0_0 a0_1).bind fun bt386 => ((warrantorref07_Plain.f k a1_0 a1_1).bind fun bt388 => (if (t385 != (bt386.1 == bt388.1 && (bt386.2 == bt388.2))) = true then (none) else ((itv_Join.f a0_0 a0_1 a1_0 a1_1).bind fun bt390 => ((warrantorref07_Join.f k a0_0 a0_1 a1_0 a1_1).bind fun bt392 => (if (!(bt390.1 == bt392.1) || (!(bt390.2 == bt392.2))) = true then (none) else ((itv_Meet.f a0_0 a0_1 a1_0 a1_1).bind fun bt394 => ((warrantorref07_Meet.f k a0_0 a0_1 a1_0 a1_1).bind fun bt396 => (if (!(bt394.1 == bt396.1) || (!(bt394.2 == bt396.2))) = true then (none) else ((itv_Move.f k a0_0 a0_1 a2).bind fun bt398 => ((warrantorref07_Move.f k a0_0 a0_1 a2).bind fun bt400 => (if (bt398.1 == bt400.1 && (bt398.2 == bt400.2)) = true then ((itv_Plus.f a0_0 a0_1 a1_0 a1_1).bind fun bt402 => ((warrantorref07_Plus.f k a0_0 a0_1 a1_0 a1_1).bind fun bt404 => (if (bt402.1 == bt404.1 && (bt402.2 == bt404.2)) = true then ((itv_Neg.f a0_0 a0_1).bind fun bt406 => ((warrantorref07_Neg.f k a0_0 a0_1).bind fun bt408 => (if (bt406.1 == bt408.1 && (bt406.2 == bt408.2)) = true then ((itv_Widen.f a0_0 a0_1 a1_0 a1_1).bind fun bt410 => ((warrantorref07_Widen.f k a0_0 a0_1 a1_0 a1_1).bind fun bt412 => (some (bt410.1 == bt412.1 && (bt410.2 == bt412.2))))) else (none)))) else (none)))) else (none)))))))))))))))))))) else (none))))))))) = some r := H
    have A6 := Aside0.mk A60
    clear A60
    replace H := Option.bind_eq_some_iff.mp H
    obtain ⟨⟨t374, t375⟩, A70, H⟩ := H
    replace H : (if (!(t372 == t374) || (!(t373 == t375))) = true then (none) else ((itv_Is.f a0_0 a0_1).bind fun t376 => ((warrantorref07_Plain.f k a0_0 a0_1).bind fun bt377 => (if (t376 != (bt377.1 == a0_0 && (bt377.2 == a0_1))) = true then (none) else ((itv_Size.f a0_0 a0_1).bind fun t379 => ((warrantorref07_Size.f k a0_0 a0_1).bind fun t380 => (if t379 = t380 then ((itv_Has.f a0_0 a0_1 a2).bind fun t381 => ((warrantorref07_Has.f a0_0 a0_1 a2).bind fun t382 => (if (t381 != t382) = true then (none) else ((itv_Leq.f a0_0 a0_1 a1_0 a1_1).bind fun t383 => ((warrantorref07_Leq.f k a0_0 a0_1 a1_0 a1_1).bind fun t384 => (if (t383 != t384) = true then (none) else ((itv_Same.f a0_0 a0_1 a1_0 a1_1).bind fun t385 => ((warrantorref07_Plain.f k a0_0 a0_1).bind fun bt386 => ((warrantorref07_Plain.f k a1_0 a1_1).bind fun bt388 => (if (t385 != (bt386.1 == bt388.1 && (bt386.2 == bt388.2))) = true then (none) else ((itv_Join.f a0_0 a0_1 a1_0 a1_1).bind fun bt390 => ((warrantorref07_Join.f k a0_0 a0_1 a1_0 a1_1).bind fun bt392 => (if (!(bt390.1 == bt392.1) || (!(bt390.2 == bt392.2))) = true then (none) else ((itv_Meet.f a0_0 a0_1 a1_0 a1_1).bind fun bt394 => ((warrantorref07_Meet.f k a0_0 a0_1 a1_0 a1_1).bind fun bt396 => (if (!(bt394.1 == bt396.1) || (!(bt394.2 == bt396.2))) = true then (none) else ((itv_Move.f k a0_0 a0_1 a2).bind fun bt398 => ((warrantorref07_Move.f k a0_0 a0_1 a2).bind fun bt400 => (if (bt398.1 == bt400.1 && (bt398.2 == bt400.2)) = true then ((itv_Plus.f a0_0 a0_1 a1_0 a1_1).bind fun bt402 => ((warrantorref07_Plus.f k a0_0 a0_1 a1_0 a1_1).bind fun bt404 => (if (bt402.1 == bt404.1 && (bt402.2 == bt404.2)) = true then ((itv_Neg.f a0_0 a0_1).bind fun bt406 => ((warrantorref07_Neg.f k a0_0 a0_1).bind fun bt408 => (if (bt406.1 == bt408.1 && (bt406.2 == bt408.2)) = true then ((itv_Widen.f a0_0 a0_1 a1_0 a1_1).bind fun bt410 => ((warrantorref07_Widen.f k a0_0 a0_1 a1_0 a1_1).bind fun bt412 => (some (bt410.1 == bt412.1 && (bt410.2 == bt412.2))))) else (none)))) else (none)))) else (none)))))))))))))))))))) else (none)))))))) = some r := H
    have A7 := Aside0.mk A70
    clear A70
    by_cases c8 : (!(t372 == t374) || (!(t373 == t375))) = true
    · rw [if_pos c8] at H
      exact absurd H (by simp)
    · rw [if_neg c8] at H
      have c8b0 : (!(t372 == t374) || (!(t373 == t375))) = false := by simpa using c8
      clear c8
      replace H := Option.bind_eq_some_iff.mp H
      obtain ⟨t376, A90, H⟩ := H
      replace H : ((warrantorref07_Plain.f k a0_0 a0_1).bind fun bt377 => (if (t376 != (bt377.1 == a0_0 && (bt377.2 == a0_1))) = true then (none) else ((itv_Size.f a0_0 a0_1).bind fun t379 => ((warrantorref07_Size.f k a0_0 a0_1).bind fun t380 => (if t379 = t380 then ((itv_Has.f a0_0 a0_1 a2).bind fun t381 => ((warrantorref07_Has.f a0_0 a0_1 a2).bind fun t382 => (if (t381 != t382) = true then (none) else ((itv_Leq.f a0_0 a0_1 a1_0 a1_1).bind fun t383 => ((warrantorref07_Leq.f k a0_0 a0_1 a1_0 a1_1).bind fun t384 => (if (t383 != t384) = true then (none) else ((itv_Same.f a0_0 a0_1 a1_0 a1_1).bind fun t385 => ((warrantorref07_Plain.f k a0_0 a0_1).bind fun bt386 => ((warrantorref07_Plain.f k a1_0 a1_1).bind fun bt388 => (if (t385 != (bt386.1 == bt388.1 && (bt386.2 == bt388.2))) = true then (none) else ((itv_Join.f a0_0 a0_1 a1_0 a1_1).bind fun bt390 => ((warrantorref07_Join.f k a0_0 a0_1 a1_0 a1_1).bind fun bt392 => (if (!(bt390.1 == bt392.1) || (!(bt390.2 == bt392.2))) = true then (none) else ((itv_Meet.f a0_0 a0_1 a1_0 a1_1).bind fun bt394 => ((warrantorref07_Meet.f k a0_0 a0_1 a1_0 a1_1).bind fun bt396 => (if (!(bt394.1 == bt396.1) || (!(bt394.2 == bt396.2))) = true then (none) else ((itv_Move.f k a0_0 a0_1 a2).bind fun bt398 => ((warrantorref07_Move.f k a0_0 a0_1 a2).bind fun bt400 => (if (bt398.1 == bt400.1 && (bt398.2 == bt400.2)) = true then ((itv_Plus.f a0_0 a0_1 a1_0 a1_1).bind fun bt402 => ((warrantorref07_Plus.f k a0_0 a0_1 a1_0 a1_1).bind fun bt404 => (if (bt402.1 == bt404.1 && (bt402.2 == bt404.2)) = true then ((itv_Neg.f a0_0 a0_1).bind fun bt406 => ((warrantorref07_Neg.f k a0_0 a0_1).bind fun bt408 => (if (bt406.1 == bt408.1 && (bt406.2 == bt408.2)) = true then ((itv_Widen.f a0_0 a0_1 a1_0 a1_1).bind fun bt410 => ((warrantorref07_Widen.f k a0_0 a0_1 a1_0 a1_1).bind fun bt412 => (some (bt410.1 == bt412.1 && (bt410.2 == bt412.2))))) else (none)))) else (none)))) else (none)))))))))))))))))))) else (none)))))) = some r := H
      have A9 := Aside0.mk A90
      clear A90
      replace H := Option.bind_eq_some_iff.mp H
      obtain ⟨⟨t377, t378⟩, A100, H⟩ := H
      replace H : (if (t376 != (t377 == a0_0 && (t378 == a0_1))) = true then (none) else ((itv_Size.f a0_0 a0_1).bind fun t379 => ((warrantorref07_Size.f k a0_0 a0_1).bind fun t380 => (if t379 = t380 then ((itv_Has.f a0_0 a0_1 a2).bind fun t381 => ((warrantorref07_Has.f a0_0 a0_1 a2).bind fun t382 => (if (t381 != t382) = true then (none) else ((itv_Leq.f a0_0 a0_1 a1_0 a1_1).bind fun t383 => ((warrantorref07_Leq.f k a0_0 a0_1 a1_0 a1_1).bind fun t384 => (if (t383 != t384) = true then (none) else ((itv_Same.f a0_0 a0_1 a1_0 a1_1).bind fun t385 => ((warrantorref07_Plain.f k a0_0 a0_1).bind fun bt386 => ((warrantorref07_Plain.f k a1_0 a1_1).bind fun bt388 => (if (t385 != (bt386.1 == bt388.1 && (bt386.2 == bt388.2))) = true then (none) else ((itv_Join.f a0_0 a0_1 a1_0 a1_1).bind fun bt390 => ((warrantorref07_Join.f k a0_0 a0_1 a1_0 a1_1).bind fun bt392 => (if (!(bt390.1 == bt392.1) || (!(bt390.2 == bt392.2))) = true then (none) else ((itv_Meet.f a0_0 a0_1 a1_0 a1_1).bind fun bt394 => ((warrantorref07_Meet.f k a0_0 a0_1 a1_0 a1_1).bind fun bt396 => (if (!(bt394.1 == bt396.1) || (!(bt394.2 == bt396.2))) = true then (none) else ((itv_Move.f k a0_0 a0_1 a2).bind fun bt398 => ((warrantorref07_Move.f k a0_0 a0_1 a2).bind fun bt400 => (if (bt398.1 == bt400.1 && (bt398.2 == bt400.2)) = true then ((itv_Plus.f a0_0 a0_1 a1_0 a1_1).bind fun bt402 => ((warrantorref07_Plus.f k a0_0 a0_1 a1_0 a1_1).bind fun bt404 => (if (bt402.1 == bt404.1 && (bt402.2 == bt404.2)) = true then ((itv_Neg.f a0_0 a0_1).bind fun bt406 => ((warrantorref07_Neg.f k a0_0 a0_1).bind fun bt408 => (if (bt406.1 == bt408.1 && (bt406.2 == bt408.2)) = true then ((itv_Widen.f a0_0 a0_1 a1_0 a1_1).bind fun bt410 => ((warrantorref07_Widen.f k a0_0 a0_1 a1_0 a1_1).bind fun bt412 => (some (bt410.1 == bt412.1 && (bt410.2 == bt412.2))))) else (none)))) else (none)))) else (none)))))))))))))))))))) else (none))))) = some r := H
      have A10 := Aside0.mk A100
      clear A100
      by_cases c11 : (t376 != (t377 == a0_0 && (t378 == a0_1))) = true
      · rw [if_pos c11] at H
        exact absurd H (by simp)
      · rw [if_neg c11] at H
        have c11b0 : (t376 != (t377 == a0_0 && (t378 == a0_1))) = false := by simpa using c11
        (try (have c11b1 : decide (t376 = (t377 == a0_0 && (t378 == a0_1))) = true := by simpa using c11))
        (try (have c11b2 : (t376 == (t377 == a0_0 && (t378 == a0_1))) = true := by simpa using c11))
        clear c11
        replace H := Option.bind_eq_some_iff.mp H
        obtain ⟨t379, A120, H⟩ := H
        replace H : ((warrantorref07_Size.f k a0_0 a0_1).bind fun t380 => (if t379 = t380 then ((itv_Has.f a0_0 a0_1 a2).bind fun t381 => ((warrantorref07_Has.f a0_0 a0_1 a2).bind fun t382 => (if (t381 != t382) = true then (none) else ((itv_Leq.f a0_0 a0_1 a1_0 a1_1).bind fun t383 => ((warrantorref07_Leq.f k a0_0 a0_1 a1_0 a1_1).bind fun t384 => (if (t383 != t384) = true then (none) else ((itv_Same.f a0_0 a0_1 a1_0 a1_1).bind fun t385 => ((warrantorref07_Plain.f k a0_0 a0_1).bind fun bt386 => ((warrantorref07_Plain.f k a1_0 a1_1).bind fun bt388 => (if (t385 != (bt386.1 == bt388.1 && (bt386.2 == bt388.2))) = true then (none) else ((itv_Join.f a0_0 a0_1 a1_0 a1_1).bind fun bt390 => ((warrantorref07_Join.f k a0_0 a0_1 a1_0 a1_1).bind fun bt392 => (if (!(bt390.1 == bt392.1) || (!(bt390.2 == bt392.2))) = true then (none) else ((itv_Meet.f a0_0 a0_1 a1_0 a1_1).bind fun bt394 => ((warrantorref07_Meet.f k a0_0 a0_1 a1_0 a1_1).bind fun bt396 => (if (!(bt394.1 == bt396.1) || (!(bt394.2 == bt396.2))) = true then (none) else ((itv_Move.f k a0_0 a0_1 a2).bind fun bt398 => ((warrantorref07_Move.f k a0_0 a0_1 a2).bind fun bt400 => (if (bt398.1 == bt400.1 && (bt398.2 == bt400.2)) = true then ((itv_Plus.f a0_0 a0_1 a1_0 a1_1).bind fun bt402 => ((warrantorref07_Plus.f k a0_0 a0_1 a1_0 a1_1).bind fun bt404 => (if (bt402.1 == bt404.1 && (bt402.2 == bt404.2)) = true then ((itv_Neg.f a0_0 a0_1).bind fun bt406 => ((warrantorref07_Neg.f k a0_0 a0_1).bind fun bt408 => (if (bt406.1 == bt408.1 && (bt406.2 == bt408.2)) = true then ((itv_Widen.f a0_0 a0_1 a1_0 a1_1).bind fun bt410 => ((warrantorref07_Widen.f k a0_0 a0_1 a1_0 a1_1).bind fun bt412 => (some (bt410.1 == bt412.1 && (bt410.2 == bt412.2))))) else (none)))) else (none)))) else (none)))))))))))))))))))) else (none))) = some r := H
        have A12 := Aside0.mk A120
        clear A120
        replace H := Option.bind_eq_some_iff.mp H
        obtain ⟨t380, A130, H⟩ := H
        replace H : (if t379 = t380 then ((itv_Has.f a0_0 a0_1 a2).bind fun t381 => ((warrantorref07_Has.f a0_0 a0_1 a2).bind fun t382 => (if (t381 != t382) = true then (none) else ((itv_Leq.f a0_0 a0_1 a1_0 a1_1).bind fun t383 => ((warrantorref07_Leq.f k a0_0 a0_1 a1_0 a1_1).bind fun t384 => (if (t383 != t384) = true then (none) else ((itv_Same.f a0_0 a0_1 a1_0 a1_1).bind fun t385 => ((warrantorref07_Plain.f k a0_0 a0_1).bind fun bt386 => ((warrantorref07_Plain.f k a1_0 a1_1).bind fun bt388 => (if (t385 != (bt386.1 == bt388.1 && (bt386.2 == bt388.2))) = true then (none) else ((itv_Join.f a0_0 a0_1 a1_0 a1_1).bind fun bt390 => ((warrantorref07_Join.f k a0_0 a0_1 a1_0 a1_1).bind fun bt392 => (if (!(bt390.1 == bt392.1) || (!(bt390.2 == bt392.2))) = true then (none) else ((itv_Meet.f a0_0 a0_1 a1_0 a1_1).bind fun bt394 => ((warrantorref07_Meet.f k a0_0 a0_1 a1_0 a1_1).bind fun bt396 => (if (!(bt394.1 == bt396.1) || (!(bt394.2 == bt396.2))) = true then (none) else ((itv_Move.f k a0_0 a0_1 a2).bind fun bt398 => ((warrantorref07_Move.f k a0_0 a0_1 a2).bind fun bt400 => (if (bt398.1 == bt400.1 && (bt398.2 == bt400.2)) = true then ((itv_Plus.f a0_0 a0_1 a1_0 a1_1).bind fun bt402 => ((warrantorref07_Plus.f k a0_0 a0_1 a1_0 a1_1).bind fun bt404 => (if (bt402.1 == bt404.1 && (bt402.2 == bt404.2)) = true then ((itv_Neg.f a0_0 a0_1).bind fun bt406 => ((warrantorref07_Neg.f k a0_0 a0_1).bind fun bt408 => (if (bt406.1 == bt408.1 && (bt406.2 == bt408.2)) = true then ((itv_Widen.f a0_0 a0_1 a1_0 a1_1).bind fun bt410 => ((warrantorref07_Widen.f k a0_0 a0_1 a1_0 a1_1).bind fun bt412 => (some (bt410.1 == bt412.1 && (bt410.2 == bt412.2))))) else (none)))) else (none)))) else (none)))))))))))))))))))) else (none)) = some r := H
        have A13 := Aside0.mk A130
        clear A130
        by_cases c14 : t379 = t380
        · rw [if_pos c14] at H
          have c14b0 : (t379 == t380) = true := beq_iff_eq.mpr c14
          have c14b1 : (t379 != t380) = false := bne_eq_false_iff_eq.mpr c14
          clear c14
          replace H := Option.bind_eq_some_iff.mp H
          obtain ⟨t381, A150, H⟩ := H
          replace H : ((warrantorref07_Has.f a0_0 a0_1 a2).bind fun t382 => (if (t381 != t382) = true then (none) else ((itv_Leq.f a0_0 a0_1 a1_0 a1_1).bind fun t383 => ((warrantorref07_Leq.f k a0_0 a0_1 a1_0 a1_1).bind fun t384 => (if (t383 != t384) = true then (none) else ((itv_Same.f a0_0 a0_1 a1_0 a1_1).bind fun t385 => ((warrantorref07_Plain.f k a0_0 a0_1).bind fun bt386 => ((warrantorref07_Plain.f k a1_0 a1_1).bind fun bt388 => (if (t385 != (bt386.1 == bt388.1 && (bt386.2 == bt388.2))) = true then (none) else ((itv_Join.f a0_0 a0_1 a1_0 a1_1).bind fun bt390 => ((warrantorref07_Join.f k a0_0 a0_1 a1_0 a1_1).bind fun bt392 => (if (!(bt390.1 == bt392.1) || (!(bt390.2 == bt392.2))) = true then (none) else ((itv_Meet.f a0_0 a0_1 a1_0 a1_1).bind fun bt394 => ((warrantorref07_Meet.f k a0_0 a0_1 a1_0 a1_1).bind fun bt396 => (if (!(bt394.1 == bt396.1) || (!(bt394.2 == bt396.2))) = true then (none) else ((itv_Move.f k a0_0 a0_1 a2).bind fun bt398 => ((warrantorref07_Move.f k a0_0 a0_1 a2).bind fun bt400 => (if (bt398.1 == bt400.1 && (bt398.2 == bt400.2)) = true then ((itv_Plus.f a0_0 a0_1 a1_0 a1_1).bind fun bt402 => ((warrantorref07_Plus.f k a0_0 a0_1 a1_0 a1_1).bind fun bt404 => (if (bt402.1 == bt404.1 && (bt402.2 == bt404.2)) = true then ((itv_Neg.f a0_0 a0_1).bind fun bt406 => ((warrantorref07_Neg.f k a0_0 a0_1).bind fun bt408 => (if (bt406.1 == bt408.1 && (bt406.2 == bt408.2)) = true then ((itv_Widen.f a0_0 a0_1 a1_0 a1_1).bind fun bt410 => ((warrantorref07_Widen.f k a0_0 a0_1 a1_0 a1_1).bind fun bt412 => (some (bt410.1 == bt412.1 && (bt410.2 == bt412.2))))) else (none)))) else (none)))) else (none))))))))))))))))))) = some r := H
          have A15 := Aside0.mk A150
          clear A150
          replace H := Option.bind_eq_some_iff.mp H
          obtain ⟨t382, A160, H⟩ := H
          replace H : (if (t381 != t382) = true then (none) else ((itv_Leq.f a0_0 a0_1 a1_0 a1_1).bind fun t383 => ((warrantorref07_Leq.f k a0_0 a0_1 a1_0 a1_1).bind fun t384 => (if (t383 != t384) = true then (none) else ((itv_Same.f a0_0 a0_1 a1_0 a1_1).bind fun t385 => ((warrantorref07_Plain.f k a0_0 a0_1).bind fun bt386 => ((warrantorref07_Plain.f k a1_0 a1_1).bind fun bt388 => (if (t385 != (bt386.1 == bt388.1 && (bt386.2 == bt388.2))) = true then (none) else ((itv_Join.f a0_0 a0_1 a1_0 a1_1).bind fun bt390 => ((warrantorref07_Join.f k a0_0 a0_1 a1_0 a1_1).bind fun bt392 => (if (!(bt390.1 == bt392.1) || (!(bt390.2 == bt392.2))) = true then (none) else ((itv_Meet.f a0_0 a0_1 a1_0 a1_1).bind fun bt394 => ((warrantorref07_Meet.f k a0_0 a0_1 a1_0 a1_1).bind fun bt396 => (if (!(bt394.1 == bt396.1) || (!(bt394.2 == bt396.2))) = true then (none) else ((itv_Move.f k a0_0 a0_1 a2).bind fun bt398 => ((warrantorref07_Move.f k a0_0 a0_1 a2).bind fun bt400 => (if (bt398.1 == bt400.1 && (bt398.2 == bt400.2)) = true then ((itv_Plus.f a0_0 a0_1 a1_0 a1_1).bind fun bt402 => ((warrantorref07_Plus.f k a0_0 a0_1 a1_0 a1_1).bind fun bt404 => (if (bt402.1 == bt404.1 && (bt402.2 == bt404.2)) = true then ((itv_Neg.f a0_0 a0_1).bind fun bt406 => ((warrantorref07_Neg.f k a0_0 a0_1).bind fun bt408 => (if (bt406.1 == bt408.1 && (bt406.2 == bt408.2)) = true then ((itv_Widen.f a0_0 a0_1 a1_0 a1_1).bind fun bt410 => ((warrantorref07_Widen.f k a0_0 a0_1 a1_0 a1_1).bind fun bt412 => (some (bt410.1 == bt412.1 && (bt410.2 == bt412.2))))) else (none)))) else (none)))) else (none)))))))))))))))))) = some r := H
          have A16 := Aside0.mk A160
          clear A160
          by_cases c17 : (t381 != t382) = true
          · rw [if_pos c17] at H
            exact absurd H (by simp)
          · rw [if_neg c17] at H
            have c17b0 : (t381 != t382) = false := by simpa using c17
            (try (have c17b1 : decide (t381 = t382) = true := by simpa using c17))
            (try (have c17b2 : (t381 == t382) = true := by simpa using c17))
            clear c17
            replace H := Option.bind_eq_some_iff.mp H
            obtain ⟨t383, A180, H⟩ := H
            replace H : ((warrantorref07_Leq.f k a0_0 a0_1 a1_0 a1_1).bind fun t384 => (if (t383 != t384) = true then (none) else ((itv_Same.f a0_0 a0_1 a1_0 a1_1).bind fun t385 => ((warrantorref07_Plain.f k a0_0 a0_1).bind fun bt386 => ((warrantorref07_Plain.f k a1_0 a1_1).bind fun bt388 => (if (t385 != (bt386.1 == bt388.1 && (bt386.2 == bt388.2))) = true then (none) else ((itv_Join.f a0_0 a0_1 a1_0 a1_1).bind fun bt390 => ((warrantorref07_Join.f k a0_0 a0_1 a1_0 a1_1).bind fun bt392 => (if (!(bt390.1 == bt392.1) || (!(bt390.2 == bt392.2))) = true then (none) else ((itv_Meet.f a0_0 a0_1 a1_0 a1_1).bind fun bt394 => ((warrantorref07_Meet.f k a0_0 a0_1 a1_0 a1_1).bind fun bt396 => (if (!(bt394.1 == bt396.1) || (!(bt394.2 == bt396.2))) = true then (none) else ((itv_Move.f k a0_0 a0_1 a2).bind fun bt398 => ((warrantorref07_Move.f k a0_0 a0_1 a2).bind fun bt400 => (if (bt398.1 == bt400.1 && (bt398.2 == bt400.2)) = true then ((itv_Plus.f a0_0 a0_1 a1_0 a1_1).bind fun bt402 => ((warrantorref07_Plus.f k a0_0 a0_1 a1_0 a1_1).bind fun bt404 => (if (bt402.1 == bt404.1 && (bt402.2 == bt404.2)) = true then ((itv_Neg.f a0_0 a0_1).bind fun bt406 => ((warrantorref07_Neg.f k a0_0 a0_1).bind fun bt408 => (if (bt406.1 == bt408.1 && (bt406.2 == bt408.2)) = true then ((itv_Widen.f a0_0 a0_1 a1_0 a1_1).bind fun bt410 => ((warrantorref07_Widen.f k a0_0 a0_1 a1_0 a1_1).bind fun bt412 => (some (bt410.1 == bt412.1 && (bt410.2 == bt412.2))))) else (none)))) else (none)))) else (none)))))))))))))))) = some r := H
            have A18 := Aside0.mk A180
            clear A180
            replace H := Option.bind_eq_some_iff.mp H
            obtain ⟨t384, A190, H⟩ := H
            replace H : (if (t383 != t384) = true then (none) else ((itv_Same.f a0_0 a0_1 a1_0 a1_1).bind fun t385 => ((warrantorref07_Plain.f k a0_0 a0_1).bind fun bt386 => ((warrantorref07_Plain.f k a1_0 a1_1).bind fun bt388 => (if (t385 != (bt386.1 == bt388.1 && (bt386.2 == bt388.2))) = true then (none) else ((itv_Join.f a0_0 a0_1 a1_0 a1_1).bind fun bt390 => ((warrantorref07_Join.f k a0_0 a0_1 a1_0 a1_1).bind fun bt392 => (if (!(bt390.1 == bt392.1) || (!(bt390.2 == bt392.2))) = true then (none) else ((itv_Meet.f a0_0 a0_1 a1_0 a1_1).bind fun bt394 => ((warrantorref07_Meet.f k a0_0 a0_1 a1_0 a1_1).bind fun bt396 => (if (!(bt394.1 == bt396.1) || (!(bt394.2 == bt396.2))) = true then (none) else ((itv_Move.f k a0_0 a0_1 a2).bind fun bt398 => ((warrantorref07_Move.f k a0_0 a0_1 a2).bind fun bt400 => (if (bt398.1 == bt400.1 && (bt398.2 == bt400.2)) = true then ((itv_Plus.f a0_0 a0_1 a1_0 a1_1).bind fun bt402 => ((warrantorref07_Plus.f k a0_0 a0_1 a1_0 a1_1).bind fun bt404 => (if (bt402.1 == bt404.1 && (bt402.2 == bt404.2)) = true then ((itv_Neg.f a0_0 a0_1).bind fun bt406 => ((warrantorref07_Neg.f k a0_0 a0_1).bind fun bt408 => (if (bt406.1 == bt408.1 && (bt406.2 == bt408.2)) = true then ((itv_Widen.f a0_0 a0_1 a1_0 a1_1).bind fun bt410 => ((warrantorref07_Widen.f k a0_0 a0_1 a1_0 a1_1).bind fun bt412 => (some (bt410.1 == bt412.1 && (bt410.2 == bt412.2))))) else (none)))) else (none)))) else (none))))))))))))))) = some r := H
            have A19 := Aside0.mk A190
            clear A190
            by_cases c20 : (t383 != t384) = true
            · rw [if_pos c20] at H
              exact absurd H (by simp)
            · rw [if_neg c20] at H
              have c20b0 : (t383 != t384) = false := by simpa using c20
              (try (have c20b1 : decide (t383 = t384) = true := by simpa using c20))
              (try (have c20b2 : (t383 == t384) = true := by simpa using c20))
              clear c20
              replace H := Option.bind_eq_some_iff.mp H
              obtain ⟨t385, A210, H⟩ := H
              replace H : ((warrantorref07_Plain.f k a0_0 a0_1).bind fun bt386 => ((warrantorref07_Plain.f k a1_0 a1_1).bind fun bt388 => (if (t385 != (bt386.1 == bt388.1 && (bt386.2 == bt388.2))) = true then (none) else ((itv_Join.f a0_0 a0_1 a1_0 a1_1).bind fun bt390 => ((warrantorref07_Join.f k a0_0 a0_1 a1_0 a1_1).bind fun bt392 => (if (!(bt390.1 == bt392.1) || (!(bt390.2 == bt392.2))) = true then (none) else ((itv_Meet.f a0_0 a0_1 a1_0 a1_1).bind fun bt394 => ((warrantorref07_Meet.f k a0_0 a0_1 a1_0 a1_1).bind fun bt396 => (if (!(bt394.1 == bt396.1) || (!(bt394.2 == bt396.2))) = true then (none) else ((itv_Move.f k a0_0 a0_1 a2).bind fun bt398 => ((warrantorref07_Move.f k a0_0 a0_1 a2).bind fun bt400 => (if (bt398.1 == bt400.1 && (bt398.2 == bt400.2)) = true then ((itv_Plus.f a0_0 a0_1 a1_0 a1_1).bind fun bt402 => ((warrantorref07_Plus.f k a0_0 a0_1 a1_0 a1_1).bind fun bt404 => (if (bt402.1 == bt404.1 && (bt402.2 == bt404.2)) = true then ((itv_Neg.f a0_0 a0_1).bind fun bt406 => ((warrantorref07_Neg.f k a0_0 a0_1).bind fun bt408 => (if (bt406.1 == bt408.1 && (bt406.2 == bt408.2)) = true then ((itv_Widen.f a0_0 a0_1 a1_0 a1_1).bind fun bt410 => ((warrantorref07_Widen.f k a0_0 a0_1 a1_0 a1_1).bind fun bt412 => (some (bt410.1 == bt412.1 && (bt410.2 == bt412.2))))) else (none)))) else (none)))) else (none))))))))))))) = some r := H
              have A21 := Aside0.mk A210
              clear A210
              replace H := Option.bind_eq_some_iff.mp H
              obtain ⟨⟨t386, t387⟩, A220, H⟩ := H
              replace H : ((warrantorref07_Plain.f k a1_0 a1_1).bind fun bt388 => (if (t385 != (t386 == bt388.1 && (t387 == bt388.2))) = true then (none) else ((itv_Join.f a0_0 a0_1 a1_0 a1_1).bind fun bt390 => ((warrantorref07_Join.f k a0_0 a0_1 a1_0 a1_1).bind fun bt392 => (if (!(bt390.1 == bt392.1) || (!(bt390.2 == bt392.2))) = true then (none) else ((itv_Meet.f a0_0 a0_1 a1_0 a1_1).bind fun bt394 => ((warrantorref07_Meet.f k a0_0 a0_1 a1_0 a1_1).bind fun bt396 => (if (!(bt394.1 == bt396.1) || (!(bt394.2 == bt396.2))) = true then (none) else ((itv_Move.f k a0_0 a0_1 a2).bind fun bt398 => ((warrantorref07_Move.f k a0_0 a0_1 a2).bind fun bt400 => (if (bt398.1 == bt400.1 && (bt398.2 == bt400.2)) = true then ((itv_Plus.f a0_0 a0_1 a1_0 a1_1).bind fun bt402 => ((warrantorref07_Plus.f k a0_0 a0_1 a1_0 a1_1).bind fun bt404 => (if (bt402.1 == bt404.1 && (bt402.2 == bt404.2)) = true then ((itv_Neg.f a0_0 a0_1).bind fun bt406 => ((warrantorref07_Neg.f k a0_0 a0_1).bind fun bt408 => (if (bt406.1 == bt408.1 && (bt406.2 == bt408.2)) = true then ((itv_Widen.f a0_0 a0_1 a1_0 a1_1).bind fun bt410 => ((warrantorref07_Widen.f k a0_0 a0_1 a1_0 a1_1).bind fun bt412 => (some (bt410.1 == bt412.1 && (bt410.2 == bt412.2))))) else (none)))) else (none)))) else (none)))))))))))) = some r := H
              have A22 := Aside0.mk A220
              clear A220
              replace H := Option.bind_eq_some_iff.mp H
              obtain ⟨⟨t388, t389⟩, A230, H⟩ := H
              replace H : (if (t385 != (t386 == t388 && (t387 == t389))) = true then (none) else ((itv_Join.f a0_0 a0_1 a1_0 a1_1).bind fun bt390 => ((warrantorref07_Join.f k a0_0 a0_1 a1_0 a1_1).bind fun bt392 => (if (!(bt390.1 == bt392.1) || (!(bt390.2 == bt392.2))) = true then (none) else ((itv_Meet.f a0_0 a0_1 a1_0 a1_1).bind fun bt394 => ((warrantorref07_Meet.f k a0_0 a0_1 a1_0 a1_1).bind fun bt396 => (if (!(bt394.1 == bt396.1) || (!(bt394.2 == bt396.2))) = true then (none) else ((itv_Move.f k a0_0 a0_1 a2).bind fun bt398 => ((warrantorref07_Move.f k a0_0 a0_1 a2).bind fun bt400 => (if (bt398.1 == bt400.1 && (bt398.2 == bt400.2)) = true then ((itv_Plus.f a0_0 a0_1 a1_0 a1_1).bind fun bt402 => ((warrantorref07_Plus.f k a0_0 a0_1 a1_0 a1_1).bind fun bt404 => (if (bt402.1 == bt404.1 && (bt402.2 == bt404.2)) = true then ((itv_Neg.f a0_0 a0_1).bind fun bt406 => ((warrantorref07_Neg.f k a0_0 a0_1).bind fun bt408 => (if (bt406.1 == bt408.1 && (bt406.2 == bt408.2)) = true then ((itv_Widen.f a0_0 a0_1 a1_0 a1_1).bind fun bt410 => ((warrantorref07_Widen.f k a0_0 a0_1 a1_0 a1_1).bind fun bt412 => (some (bt410.1 == bt412.1 && (bt410.2 == bt412.2))))) else (none)))) else (none)))) else (none))))))))))) = some r := H
              have A23 := Aside0.mk A230
              clear A230
              by_cases c24 : (t385 != (t386 == t388 && (t387 == t389))) = true
              · rw [if_pos c24] at H
                exact absurd H (by simp)
              · rw [if_neg c24] at H
                have c24b0 : (t385 != (t386 == t388 && (t387 == t389))) = false := by simpa using c24
                (try (have c24b1 : decide (t385 = (t386 == t388 && (t387 == t389))) = true := by simpa using c24))
                (try (have c24b2 : (t385 == (t386 == t388 && (t387 == t389))) = true := by simpa using c24))
                clear c24
                replace H := Option.bind_eq_some_iff.mp H
                obtain ⟨⟨t390, t391⟩, A250, H⟩ := H
                replace H : ((warrantorref07_Join.f k a0_0 a0_1 a1_0 a1_1).bind fun bt392 => (if (!(t390 == bt392.1) || (!(t391 == bt392.2))) = true then (none) else ((itv_Meet.f a0_0 a0_1 a1_0 a1_1).bind fun bt394 => ((warrantorref07_Meet.f k a0_0 a0_1 a1_0 a1_1).bind fun bt396 => (if (!(bt394.1 == bt396.1) || (!(bt394.2 == bt396.2))) = true then (none) else ((itv_Move.f k a0_0 a0_1 a2).bind fun bt398 => ((warrantorref07_Move.f k a0_0 a0_1 a2).bind fun bt400 => (if (bt398.1 == bt400.1 && (bt398.2 == bt400.2)) = true then ((itv_Plus.f a0_0 a0_1 a1_0 a1_1).bind fun bt402 => ((warrantorref07_Plus.f k a0_0 a0_1 a1_0 a1_1).bind fun bt404 => (if (bt402.1 == bt404.1 && (bt402.2 == bt404.2)) = true then ((itv_Neg.f a0_0 a0_1).bind fun bt406 => ((warrantorref07_Neg.f k a0_0 a0_1).bind fun bt408 => (if (bt406.1 == bt408.1 && (bt406.2 == bt408.2)) = true then ((itv_Widen.f a0_0 a0_1 a1_0 a1_1).bind fun bt410 => ((warrantorref07_Widen.f k a0_0 a0_1 a1_0 a1_1).bind fun bt412 => (some (bt410.1 == bt412.1 && (bt410.2 == bt412.2))))) else (none)))) else (none)))) else (none))))))))) = some r := H
                have A25 := Aside0.mk A250
                clear A250
                replace H := Option.bind_eq_some_iff.mp H
                obtain ⟨⟨t392, t393⟩, A260, H⟩ := H
                replace H : (if (!(t390 == t392) || (!(t391 == t393))) = true then (none) else ((itv_Meet.f a0_0 a0_1 a1_0 a1_1).bind fun bt394 => ((warrantorref07_Meet.f k a0_0 a0_1 a1_0 a1_1).bind fun bt396 => (if (!(bt394.1 == bt396.1) || (!(bt394.2 == bt396.2))) = true then (none) else ((itv_Move.f k a0_0 a0_1 a2).bind fun bt398 => ((warrantorref07_Move.f k a0_0 a0_1 a2).bind fun bt400 => (if (bt398.1 == bt400.1 && (bt398.2 == bt400.2)) = true then ((itv_Plus.f a0_0 a0_1 a1_0 a1_1).bind fun bt402 => ((warrantorref07_Plus.f k a0_0 a0_1 a1_0 a1_1).bind fun bt404 => (if (bt402.1 == bt404.1 && (bt402.2 == bt404.2)) = true then ((itv_Neg.f a0_0 a0_1).bind fun bt406 => ((warrantorref07_Neg.f k a0_0 a0_1).bind fun bt408 => (if (bt406.1 == bt408.1 && (bt406.2 == bt408.2)) = true then ((itv_Widen.f a0_0 a0_1 a1_0 a1_1).bind fun bt410 => ((warrantorref07_Widen.f k a0_0 a0_1 a1_0 a1_1).bind fun bt412 => (some (bt410.1 == bt412.1 && (bt410.2 == bt412.2))))) else (none)))) else (none)))) else (none)))))))) = some r := H
                have A26 := Aside0.mk A260
                clear A260
                by_cases c27 : (!(t390 == t392) || (!(t391 == t393))) = true
                · rw [if_pos c27] at H
                  exact absurd H (by simp)
                · rw [if_neg c27] at H
                  have c27b0 : (!(t390 == t392) || (!(t391 == t393))) = false := by simpa using c27
                  clear c27
                  replace H := Option.bind_eq_some_iff.mp H
                  obtain ⟨⟨t394, t395⟩, A280, H⟩ := H
                  replace H : ((warrantorref07_Meet.f k a0_0 a0_1 a1_0 a1_1).bind fun bt396 => (if (!(t394 == bt396.1) || (!(t395 == bt396.2))) = true then (none) else ((itv_Move.f k a0_0 a0_1 a2).bind fun bt398 => ((warrantorref07_Move.f k a0_0 a0_1 a2).bind fun bt400 => (if (bt398.1 == bt400.1 && (bt398.2 == bt400.2)) = true then ((itv_Plus.f a0_0 a0_1 a1_0 a1_1).bind fun bt402 => ((warrantorref07_Plus.f k a0_0 a0_1 a1_0 a1_1).bind fun bt404 => (if (bt402.1 == bt404.1 && (bt402.2 == bt404.2)) = true then ((itv_Neg.f a0_0 a0_1).bind fun bt406 => ((warrantorref07_Neg.f k a0_0 a0_1).bind fun bt408 => (if (bt406.1 == bt408.1 && (bt406.2 == bt408.2)) = true then ((itv_Widen.f a0_0 a0_1 a1_0 a1_1).bind fun bt410 => ((warrantorref07_Widen.f k a0_0 a0_1 a1_0 a1_1).bind fun bt412 => (some (bt410.1 == bt412.1 && (bt410.2 == bt412.2))))) else (none)))) else (none)))) else (none)))))) = some r := H
                  have A28 := Aside0.mk A280
                  clear A280
                  replace H := Option.bind_eq_some_iff.mp H
                  obtain ⟨⟨t396, t397⟩, A290, H⟩ := H
                  replace H : (if (!(t394 == t396) || (!(t395 == t397))) = true then (none) else ((itv_Move.f k a0_0 a0_1 a2).bind fun bt398 => ((warrantorref07_Move.f k a0_0 a0_1 a2).bind fun bt400 => (if (bt398.1 == bt400.1 && (bt398.2 == bt400.2)) = true then ((itv_Plus.f a0_0 a0_1 a1_0 a1_1).bind fun bt402 => ((warrantorref07_Plus.f k a0_0 a0_1 a1_0 a1_1).bind fun bt404 => (if (bt402.1 == bt404.1 && (bt402.2 == bt404.2)) = true then ((itv_Neg.f a0_0 a0_1).bind fun bt406 => ((warrantorref07_Neg.f k a0_0 a0_1).bind fun bt408 => (if (bt406.1 == bt408.1 && (bt406.2 == bt408.2)) = true then ((itv_Widen.f a0_0 a0_1 a1_0 a1_1).bind fun bt410 => ((warrantorref07_Widen.f k a0_0 a0_1 a1_0 a1_1).bind fun bt412 => (some (bt410.1 == bt412.1 && (bt410.2 == bt412.2))))) else (none)))) else (none)))) else (none))))) = some r := H
                  have A29 := Aside0.mk A290
                  clear A290
                  by_cases c30 : (!(t394 == t396) || (!(t395 == t397))) = true
                  · rw [if_pos c30] at H
                    exact absurd H (by simp)
                  · rw [if_neg c30] at H
                    have c30b0 : (!(t394 == t396) || (!(t395 == t397))) = false := by simpa using c30
                    clear c30
                    replace H := Option.bind_eq_some_iff.mp H
                    obtain ⟨⟨t398, t399⟩, A310, H⟩ := H
                    replace H : ((warrantorref07_Move.f k a0_0 a0_1 a2).bind fun bt400 => (if (t398 == bt400.1 && (t399 == bt400.2)) = true then ((itv_Plus.f a0_0 a0_1 a1_0 a1_1).bind fun bt402 => ((warrantorref07_Plus.f k a0_0 a0_1 a1_0 a1_1).bind fun bt404 => (if (bt402.1 == bt404.1 && (bt402.2 == bt404.2)) = true then ((itv_Neg.f a0_0 a0_1).bind fun bt406 => ((warrantorref07_Neg.f k a0_0 a0_1).bind fun bt408 => (if (bt406.1 == bt408.1 && (bt406.2 == bt408.2)) = true then ((itv_Widen.f a0_0 a0_1 a1_0 a1_1).bind fun bt410 => ((warrantorref07_Widen.f k a0_0 a0_1 a1_0 a1_1).bind fun bt412 => (some (bt410.1 == bt412.1 && (bt410.2 == bt412.2))))) else (none)))) else (none)))) else (none))) = some r := H
                    have A31 := Aside0.mk A310
                    clear A310
                    replace H := Option.bind_eq_some_iff.mp H
                    obtain ⟨⟨t400, t401⟩, A320, H⟩ := H
                    replace H : (if (t398 == t400 && (t399 == t401)) = true then ((itv_Plus.f a0_0 a0_1 a1_0 a1_1).bind fun bt402 => ((warrantorref07_Plus.f k a0_0 a0_1 a1_0 a1_1).bind fun bt404 => (if (bt402.1 == bt404.1 && (bt402.2 == bt404.2)) = true then ((itv_Neg.f a0_0 a0_1).bind fun bt406 => ((warrantorref07_Neg.f k a0_0 a0_1).bind fun bt408 => (if (bt406.1 == bt408.1 && (bt406.2 == bt408.2)) = true then ((itv_Widen.f a0_0 a0_1 a1_0 a1_1).bind fun bt410 => ((warrantorref07_Widen.f k a0_0 a0_1 a1_0 a1_1).bind fun bt412 => (some (bt410.1 == bt412.1 && (bt410.2 == bt412.2))))) else (none)))) else (none)))) else (none)) = some r := H
                    have A32 := Aside0.mk A320
                    clear A320
                    by_cases c33 : (t398 == t400 && (t399 == t401)) = true
                    · rw [if_pos c33] at H
                      have c33b0 : (t398 == t400 && (t399 == t401)) = true := c33
                      (try (have c33b1 : decide (t398 = t400 && (t399 == t401)) = true := by simpa using c33))
                      (try (have c33b2 : (t398 == t400 && (t399 == t401)) = true := by simpa using c33))
                      clear c33
                      replace H := Option.bind_eq_some_iff.mp H
                      obtain ⟨⟨t402, t403⟩, A340, H⟩ := H
                      replace H : ((warrantorref07_Plus.f k a0_0 a0_1 a1_0 a1_1).bind fun bt404 => (if (t402 == bt404.1 && (t403 == bt404.2)) = true then ((itv_Neg.f a0_0 a0_1).bind fun bt406 => ((warrantorref07_Neg.f k a0_0 a0_1).bind fun bt408 => (if (bt406.1 == bt408.1 && (bt406.2 == bt408.2)) = true then ((itv_Widen.f a0_0 a0_1 a1_0 a1_1).bind fun bt410 => ((warrantorref07_Widen.f k a0_0 a0_1 a1_0 a1_1).bind fun bt412 => (some (bt410.1 == bt412.1 && (bt410.2 == bt412.2))))) else (none)))) else (none))) = some r := H
                      have A34 := Aside0.mk A340
                      clear A340
                      replace H := Option.bind_eq_some_iff.mp H
                      obtain ⟨⟨t404, t405⟩, A350, H⟩ := H
                      replace H : (if (t402 == t404 && (t403 == t405)) = true then ((itv_Neg.f a0_0 a0_1).bind fun bt406 => ((warrantorref07_Neg.f k a0_0 a0_1).bind fun bt408 => (if (bt406.1 == bt408.1 && (bt406.2 == bt408.2)) = true then ((itv_Widen.f a0_0 a0_1 a1_0 a1_1).bind fun bt410 => ((warrantorref07_Widen.f k a0_0 a0_1 a1_0 a1_1).bind fun bt412 => (some (bt410.1 == bt412.1 && (bt410.2 == bt412.2))))) else (none)))) else (none)) = some r := H
                      have A35 := Aside0.mk A350
                      clear A350
                      by_cases c36 : (t402 == t404 && (t403 == t405)) = true
                      · rw [if_pos c36] at H
                        have c36b0 : (t402 == t404 && (t403 == t405)) = true := c36
                        (try (have c36b1 : decide (t402 = t404 && (t403 == t405)) = true := by simpa using c36))
                        (try (have c36b2 : (t402 == t404 && (t403 == t405)) = true := by simpa using c36))
                        clear c36
                        replace H := Option.bind_eq_some_iff.mp H
                        obtain ⟨⟨t406, t407⟩, A370, H⟩ := H
                        replace H : ((warrantorref07_Neg.f k a0_0 a0_1).bind fun bt408 => (if (t406 == bt408.1 && (t407 == bt408.2)) = true then ((itv_Widen.f a0_0 a0_1 a1_0 a1_1).bind fun bt410 => ((warrantorref07_Widen.f k a0_0 a0_1 a1_0 a1_1).bind fun bt412 => (some (bt410.1 == bt412.1 && (bt410.2 == bt412.2))))) else (none))) = some r := H
                        have A37 := Aside0.mk A370
                        clear A370
                        replace H := Option.bind_eq_some_iff.mp H
                        obtain ⟨⟨t408, t409⟩, A380, H⟩ := H
                        replace H : (if (t406 == t408 && (t407 == t409)) = true then ((itv_Widen.f a0_0 a0_1 a1_0 a1_1).bind fun bt410 => ((warrantorref07_Widen.f k a0_0 a0_1 a1_0 a1_1).bind fun bt412 => (some (bt410.1 == bt412.1 && (bt410.2 == bt412.2))))) else (none)) = some r := H
                        have A38 := Aside0.mk A380
                        clear A380
                        by_cases c39 : (t406 == t408 && (t407 == t409)) = true
                        · rw [if_pos c39] at H
                          have c39b0 : (t406 == t408 && (t407 == t409)) = true := c39
                          (try (have c39b1 : decide (t406 = t408 && (t407 == t409)) = true := by simpa using c39))
                          (try (have c39b2 : (t406 == t408 && (t407 == t409)) = true := by simpa using c39))
                          clear c39
                          replace H := Option.bind_eq_some_iff.mp H
                          obtain ⟨⟨t410, t411⟩, A400, H⟩ := H
                          replace H : ((warrantorref07_Widen.f k a0_0 a0_1 a1_0 a1_1).bind fun bt412 => (some (t410 == bt412.1 && (t411 == bt412.2)))) = some r := H
                          have A40 := Aside0.mk A400
                          clear A400
                          replace H := Option.bind_eq_some_iff.mp H
                          obtain ⟨⟨t412, t413⟩, A410, H⟩ := H
                          replace H : (some (t410 == t412 && (t411 == t413))) = some r := H
                          have A41 := Aside0.mk A410
                          clear A410
                          obtain rfl := Option.some.inj H
                          go_enter Tryd.func3, Tryd.ntmps3
                          try go_wp2_with (first | ((with_reducible refine gate_dst (N := 3) rfl ?_); refine box_event ?hg (N := 3) ?hd (cs := #[.int .i64 a0_0, .int .i64 a0_1]) (t := 23) ?hr ?_; (case hd => rfl); (case hg => rfl); (case hr => first | (go_simp; done) | (go_simp; rfl)); intro gb369 hg w42 hbox hb; have n0_ := Aside0.mk (below_step HB_ hb); have n1_ := Aside0.mk (hbox); have n2_ := Aside0.mk ((by rw [hg]; exact (below_size HB_) : w.heap.size ≤ gb369)); have n3_ := Aside0.mk ((by rw [hg]; exact (below_size HB_) : w.heap.size ≤ gb369)); clear HB; have HB := n0_; have BK369 := n1_; have GW369 := n2_; have GE369 := n3_; clear n0_ n1_ n2_ n3_; clear hb hbox hg) | ((with_reducible refine gate_dst (N := 4) rfl ?_); refine box_event ?hg (N := 4) ?hd (cs := #[.int .i64 a1_0, .int .i64 a1_1]) (t := 23) ?hr ?_; (case hd => rfl); (case hg => rfl); (case hr => first | (go_simp; done) | (go_simp; rfl)); intro gb370 hg w43 hbox hb; have n0_ := Aside0.mk (blk_below (g := gb369) (o := .cells #[.int .i64 a0_0, .int .i64 a0_1] 23 (0, 0)) (bk_ BK369.out) hb); have n1_ := Aside0.mk (below_step HB_ hb); have n2_ := Aside0.mk (hbox); have n3_ := Aside0.mk ((by rw [hg]; exact (below_size HB_) : w.heap.size ≤ gb370)); have n4_ := Aside0.mk ((by rw [hg]; exact (below_size HB_) : w.heap.size ≤ gb370)); have n5_ := Aside0.mk ((by rw [hg]; exact Nat.ne_of_lt (blk_lt (g := gb369) (o := .cells #[.int .i64 a0_0, .int .i64 a0_1] 23 (0, 0)) (bk_ BK369.out)) : gb369 ≠ gb370)); have n6_ := Aside0.mk ((by rw [hg]; exact Nat.ne_of_gt (blk_lt (g := gb369) (o := .cells #[.int .i64 a0_0, .int .i64 a0_1] 23 (0, 0)) (bk_ BK369.out)) : gb370 ≠ gb369)); clear BK369; clear HB; have BK369 := n0_; have HB := n1_; have BK370 := n2_; have GW370 := n3_; have GE370 := n4_; have NB369_370 := n5_; have NB370_369 := n6_; clear n0_ n1_ n2_ n3_ n4_ n5_ n6_; clear hb hbox hg))
                          first | (obtain ⟨w43, hq_⟩ : ∃ x, x = w43.drewN nd := ⟨_, rfl⟩; rw [← hq_]; have q0_ := Aside0.mk (blk_drewN BK369.out nd); rw [← hq_] at q0_; have q1_ := Aside0.mk (blk_drewN BK370.out nd); rw [← hq_] at q1_; have q2_ := Aside0.mk (pw_below_drewN HB.out nd); rw [← hq_] at q2_; clear BK369; clear BK370; clear HB; have BK369 := q0_; have BK370 := q1_; have HB := q2_; clear hq_ q0_ q1_ q2_) | skip
                          have n0_ := Aside0.mk (blk_drew BK369.out)
                          have n1_ := Aside0.mk (blk_drew BK370.out)
                          have n2_ := Aside0.mk (below_drew1 HB.out)
                          clear BK369
                          clear BK370
                          clear HB
                          have BK369 := n0_
                          have BK370 := n1_
                          have HB := n2_
                          clear n0_ n1_ n2_
                          refine start_ (n := 37) (S := fun w' => w'.cell? ⟨gb369, 0, none⟩ = some (.int .i64 a0_0) ∧ w'.cell? ⟨gb369, 1, none⟩ = some (.int .i64 a0_1)) (ds := []) #[false, false, false, false, false, false, false, false, false, false, false, false, false, false, false, false, false, false, false, false, false, false, false, false, false, false, false, false, false, false, false, false, false, false, false, false, false] (by kernel_rfl) rfl rfl ⟨(blk_cell BK369.out 0).trans rfl, (blk_cell BK369.out 1).trans rfl⟩ (fun hHeld => ?_); refine with_tabW warrantorlaw07_ItvTells.tab1 warrantorlaw07_ItvTells.bits1 (fun HT_ HW_ => ?_)
                          generalize w43.drew = w44 at BK369 BK370 HB hHeld ⊢
                          refine one_ (i := 0) (N := some 7) #[true, false, false, false, false, false, false, false, false, false, false, false, false, false, false, false, false, false, false, false, false, false, false, false, false, false, false, false, false, false, false, false, false, false, false, false, false] rfl rfl (one_of HT_.out (by kernel_rfl)) (by decide) (fun K hK => ?_)
                          refine goes_ Tryd.func8 (by kernel_rfl) rfl #[] (by rfl) rfl rfl MP_ ?_
                          with_reducible refine (warrantorlaw07_lives.calls k  true _ (tb_below HTB.out HB_) A4.out).mono ?_
                          rintro e w45 ⟨rfl, hb⟩
                          refine ⟨_, rfl, ?_⟩
                          have n0_ := Aside0.mk (blk_below (g := gb369) (o := .cells #[.int .i64 a0_0, .int .i64 a0_1] 23 (0, 0)) (bk_ BK369.out) hb)
                          have n1_ := Aside0.mk (blk_below (g := gb370) (o := .cells #[.int .i64 a1_0, .int .i64 a1_1] 23 (0, 0)) (bk_ BK370.out) hb)
                          have n2_ := Aside0.mk (below_step HB_ hb)
                          clear BK369
                          clear BK370
                          clear HB
                          have BK369 := n0_
                          have BK370 := n1_
                          have HB := n2_
                          clear n0_ n1_ n2_
                          (try clear hb)
                          (try clear hb2)
                          (try clear hk)
                          (try clear hi)
                          refine hK.out _ _ ⟨(blk_cell BK369.out 0).trans rfl, (blk_cell BK369.out 1).trans rfl⟩ (fun hHeld => ?_)
                          clear hK K
                          refine norm_ (a' := ?_) ?_ ?_
                          rotate_left
                          · show Act.put _ (some 7) _ = _
                            simp only [Act.put, List.setIfInBounds_toArray, List.set_cons_zero, List.set_cons_succ, i64_w, i32_w]
                            rfl
                          refine pure_ (i := 1) (N := some 8) (v := ?_) (a' := ?_) #[true, true, false, false, false, false, false, false, false, false, false, false, false, false, false, false, false, false, false, false, false, false, false, false, false, false, false, false, false, false, false, false, false, false, false, false, false] rfl rfl (any_of HT_.out (by kernel_rfl)) (fun _ _ _ h => h) (Or.inl ⟨by rfl, ?_⟩) ?_ ?_
                          rotate_left
                          · intro w'
                            go_simp
                            with_reducible rfl
                          rotate_left
                          · exact AP_
                          refine pure_ (i := 2) (N := some 9) (v := ?_) (a' := ?_) #[true, true, true, false, false, false, false, false, false, false, false, false, false, false, false, false, false, false, false, false, false, false, false, false, false, false, false, false, false, false, false, false, false, false, false, false, false] rfl rfl (any_of HT_.out (by kernel_rfl)) (fun _ _ _ h => h) (Or.inl ⟨by rfl, ?_⟩) ?_ ?_
                          rotate_left
                          · intro w'
                            go_simp
                            with_reducible rfl
                          rotate_left
                          · exact AP_
                          refine pure_ (i := 3) (N := some 10) (v := ?_) (a' := ?_) #[true, true, true, true, false, false, false, false, false, false, false, false, false, false, false, false, false, false, false, false, false, false, false, false, false, false, false, false, false, false, false, false, false, false, false, false, false] rfl rfl (any_of HT_.out (by kernel_rfl)) (fun _ _ _ h => h) (Or.inl ⟨by rfl, ?_⟩) ?_ ?_
                          rotate_left
                          · intro w'
                            go_simp
                            with_reducible rfl
                          rotate_left
                          · exact AP_
                          refine pure_ (i := 5) (N := some 12) (v := ?_) (a' := ?_) #[true, true, true, true, false, true, false, false, false, false, false, false, false, false, false, false, false, false, false, false, false, false, false, false, false, false, false, false, false, false, false, false, false, false, false, false, false] rfl rfl (any_of HT_.out (by kernel_rfl)) (fun _ _ _ h => h) (Or.inl ⟨by rfl, ?_⟩) ?_ ?_
                          rotate_left
                          · intro w'
                            go_simp
                            with_reducible rfl
                          rotate_left
                          · exact AP_
                          refine take_ (i := 4) (N := some 11) (v := ?_) (a' := ?_) #[true, true, true, true, true, true, false, false, false, false, false, false, false, false, false, false, false, false, false, false, false, false, false, false, false, false, false, false, false, false, false, false, false, false, false, false, false] rfl rfl (take_ofW HT_.out HW_.out (by kernel_rfl)) (fun _ _ _ h => h) (Or.inl ⟨by rfl, ?_⟩) hHeld ?_ ?_
                          rotate_left
                          · rintro w' ⟨s0, s1⟩
                            go_simp
                            with_reducible rfl
                          rotate_left
                          · exact AP_
                          refine take_ (i := 6) (N := some 13) (v := ?_) (a' := ?_) #[true, true, true, true, true, true, true, false, false, false, false, false, false, false, false, false, false, false, false, false, false, false, false, false, false, false, false, false, false, false, false, false, false, false, false, false, false] rfl rfl (take_ofW HT_.out HW_.out (by kernel_rfl)) (fun _ _ _ h => h) (Or.inl ⟨by rfl, ?_⟩) hHeld ?_ ?_
                          rotate_left
                          · rintro w' ⟨s0, s1⟩
                            go_simp
                            with_reducible rfl
                          rotate_left
                          · exact AP_
                          refine take_ (i := 8) (N := some 15) (v := ?_) (a' := ?_) #[true, true, true, true, true, true, true, false, true, false, false, false, false, false, false, false, false, false, false, false, false, false, false, false, false, false, false, false, false, false, false, false, false, false, false, false, false] rfl rfl (take_ofW HT_.out HW_.out (by kernel_rfl)) (fun _ _ _ h => h) (Or.inl ⟨by rfl, ?_⟩) hHeld ?_ ?_
                          rotate_left
                          · rintro w' ⟨s0, s1⟩
                            go_simp
                            with_reducible rfl
                          rotate_left
                          · exact AP_
                          refine one_ (i := 7) (N := some 14) #[true, true, true, true, true, true, true, true, true, false, false, false, false, false, false, false, false, false, false, false, false, false, false, false, false, false, false, false, false, false, false, false, false, false, false, false, false] rfl rfl (one_of HT_.out (by kernel_rfl)) (by decide) (fun K hK => ?_)
                          refine goes_ Tryd.func9 (by kernel_rfl) rfl #[.int .i64 a0_0, .int .i64 a0_1] (by rfl) rfl rfl MP_ ?_
                          with_reducible refine (itv_Of.calls a0_0 a0_1 t372 t373 _ A6.out).mono ?_
                          rintro e w46 ⟨rfl, hb⟩
                          refine ⟨_, rfl, ?_⟩
                          have n0_ := Aside0.mk (blk_below (g := gb369) (o := .cells #[.int .i64 a0_0, .int .i64 a0_1] 23 (0, 0)) (bk_ BK369.out) hb)
                          have n1_ := Aside0.mk (blk_below (g := gb370) (o := .cells #[.int .i64 a1_0, .int .i64 a1_1] 23 (0, 0)) (bk_ BK370.out) hb)
                          have n2_ := Aside0.mk (below_step HB_ hb)
                          clear BK369
                          clear BK370
                          clear HB
                          have BK369 := n0_
                          have BK370 := n1_
                          have HB := n2_
                          clear n0_ n1_ n2_
                          (try clear hb)
                          (try clear hb2)
                          (try clear hk)
                          (try clear hi)
                          refine hK.out _ _ ⟨(blk_cell BK369.out 0).trans rfl, (blk_cell BK369.out 1).trans rfl⟩ (fun hHeld => ?_)
                          clear hK K
                          refine norm_ (a' := ?_) ?_ ?_
                          rotate_left
                          · show Act.put _ (some 14) _ = _
                            simp only [Act.put, List.setIfInBounds_toArray, List.set_cons_zero, List.set_cons_succ, i64_w, i32_w]
                            rfl
                          refine one_ (i := 9) (N := some 16) #[true, true, true, true, true, true, true, true, true, true, false, false, false, false, false, false, false, false, false, false, false, false, false, false, false, false, false, false, false, false, false, false, false, false, false, false, false] rfl rfl (one_of HT_.out (by kernel_rfl)) (by decide) (fun K hK => ?_)
                          refine goes_ Tryd.func10 (by kernel_rfl) rfl #[.agg #[.int .i64 a0_0, .int .i64 a0_1]] (by rfl) rfl rfl MP_ ?_
                          with_reducible refine (warrantorref07_Plain.calls k a0_0 a0_1 t374 t375 _ A7.out).mono ?_
                          rintro e w47 ⟨rfl, hb⟩
                          refine ⟨_, rfl, ?_⟩
                          have n0_ := Aside0.mk (blk_below (g := gb369) (o := .cells #[.int .i64 a0_0, .int .i64 a0_1] 23 (0, 0)) (bk_ BK369.out) hb)
                          have n1_ := Aside0.mk (blk_below (g := gb370) (o := .cells #[.int .i64 a1_0, .int .i64 a1_1] 23 (0, 0)) (bk_ BK370.out) hb)
                          have n2_ := Aside0.mk (below_step HB_ hb)
                          clear BK369
                          clear BK370
                          clear HB
                          have BK369 := n0_
                          have BK370 := n1_
                          have HB := n2_
                          clear n0_ n1_ n2_
                          (try clear hb)
                          (try clear hb2)
                          (try clear hk)
                          (try clear hi)
                          refine hK.out _ _ ⟨(blk_cell BK369.out 0).trans rfl, (blk_cell BK369.out 1).trans rfl⟩ (fun hHeld => ?_)
                          clear hK K
                          refine norm_ (a' := ?_) ?_ ?_
                          rotate_left
                          · show Act.put _ (some 16) _ = _
                            simp only [Act.put, List.setIfInBounds_toArray, List.set_cons_zero, List.set_cons_succ, i64_w, i32_w]
                            rfl
                          refine pure_ (i := 10) (N := some 17) (v := ?_) (a' := ?_) #[true, true, true, true, true, true, true, true, true, true, true, false, false, false, false, false, false, false, false, false, false, false, false, false, false, false, false, false, false, false, false, false, false, false, false, false, false] rfl rfl (any_of HT_.out (by kernel_rfl)) (fun _ _ _ h => h) (Or.inl ⟨by rfl, ?_⟩) ?_ ?_
                          rotate_left
                          · intro w'
                            go_simp
                            with_reducible rfl
                          rotate_left
                          · exact AP_
                          refine pure_ (i := 11) (N := some 18) (v := ?_) (a' := ?_) #[true, true, true, true, true, true, true, true, true, true, true, true, false, false, false, false, false, false, false, false, false, false, false, false, false, false, false, false, false, false, false, false, false, false, false, false, false] rfl rfl (any_of HT_.out (by kernel_rfl)) (fun _ _ _ h => h) (Or.inl ⟨by rfl, ?_⟩) ?_ ?_
                          rotate_left
                          · intro w'
                            go_simp
                            with_reducible rfl
                          rotate_left
                          · exact AP_
                          refine pure_ (i := 12) (N := some 19) (v := ?_) (a' := ?_) #[true, true, true, true, true, true, true, true, true, true, true, true, true, false, false, false, false, false, false, false, false, false, false, false, false, false, false, false, false, false, false, false, false, false, false, false, false] rfl rfl (any_of HT_.out (by kernel_rfl)) (fun _ _ _ h => h) (Or.inl ⟨by rfl, ?_⟩) ?_ ?_
                          rotate_left
                          · intro w'
                            go_simp
                            with_reducible rfl
                          rotate_left
                          · exact AP_
                          refine take_ (i := 13) (N := some 20) (v := ?_) (a' := ?_) #[true, true, true, true, true, true, true, true, true, true, true, true, true, true, false, false, false, false, false, false, false, false, false, false, false, false, false, false, false, false, false, false, false, false, false, false, false] rfl rfl (take_ofW HT_.out HW_.out (by kernel_rfl)) (fun _ _ _ h => h) (Or.inl ⟨by rfl, ?_⟩) hHeld ?_ ?_
                          rotate_left
                          · rintro w' ⟨s0, s1⟩
                            go_simp
                            with_reducible rfl
                          rotate_left
                          · exact AP_
                          refine take_ (i := 15) (N := some 22) (v := ?_) (a' := ?_) #[true, true, true, true, true, true, true, true, true, true, true, true, true, true, false, true, false, false, false, false, false, false, false, false, false, false, false, false, false, false, false, false, false, false, false, false, false] rfl rfl (take_ofW HT_.out HW_.out (by kernel_rfl)) (fun _ _ _ h => h) (Or.inl ⟨by rfl, ?_⟩) hHeld ?_ ?_
                          rotate_left
                          · rintro w' ⟨s0, s1⟩
                            go_simp
                            with_reducible rfl
                          rotate_left
                          · exact AP_
                          refine take_ (i := 17) (N := some 24) (v := ?_) (a' := ?_) #[true, true, true, true, true, true, true, true, true, true, true, true, true, true, false, true, false, true, false, false, false, false, false, false, false, false, false, false, false, false, false, false, false, false, false, false, false] rfl rfl (take_ofW HT_.out HW_.out (by kernel_rfl)) (fun _ _ _ h => h) (Or.inl ⟨by rfl, ?_⟩) hHeld ?_ ?_
                          rotate_left
                          · rintro w' ⟨s0, s1⟩
                            go_simp
                            with_reducible rfl
                          rotate_left
                          · exact AP_
                          refine one_ (i := 14) (N := some 21) #[true, true, true, true, true, true, true, true, true, true, true, true, true, true, true, true, false, true, false, false, false, false, false, false, false, false, false, false, false, false, false, false, false, false, false, false, false] rfl rfl (one_of HT_.out (by kernel_rfl)) (by decide) (fun K hK => ?_)
                          refine goes_ Tryd.func11 (by kernel_rfl) rfl #[.agg #[.int .i64 a0_0, .int .i64 a0_1]] (by rfl) rfl rfl MP_ ?_
                          with_reducible refine (itv_Is.calls a0_0 a0_1 t376 _ A9.out).mono ?_
                          rintro e w48 ⟨rfl, hb⟩
                          refine ⟨_, rfl, ?_⟩
                          have n0_ := Aside0.mk (blk_below (g := gb369) (o := .cells #[.int .i64 a0_0, .int .i64 a0_1] 23 (0, 0)) (bk_ BK369.out) hb)
                          have n1_ := Aside0.mk (blk_below (g := gb370) (o := .cells #[.int .i64 a1_0, .int .i64 a1_1] 23 (0, 0)) (bk_ BK370.out) hb)
                          have n2_ := Aside0.mk (below_step HB_ hb)
                          clear BK369
                          clear BK370
                          clear HB
                          have BK369 := n0_
                          have BK370 := n1_
                          have HB := n2_
                          clear n0_ n1_ n2_
                          (try clear hb)
                          (try clear hb2)
                          (try clear hk)
                          (try clear hi)
                          refine hK.out _ _ ⟨(blk_cell BK369.out 0).trans rfl, (blk_cell BK369.out 1).trans rfl⟩ (fun hHeld => ?_)
                          clear hK K
                          refine norm_ (a' := ?_) ?_ ?_
                          rotate_left
                          · show Act.put _ (some 21) _ = _
                            simp only [Act.put, List.setIfInBounds_toArray, List.set_cons_zero, List.set_cons_succ, i64_w, i32_w]
                            rfl
                          refine one_ (i := 16) (N := some 23) #[true, true, true, true, true, true, true, true, true, true, true, true, true, true, true, true, true, true, false, false, false, false, false, false, false, false, false, false, false, false, false, false, false, false, false, false, false] rfl rfl (one_of HT_.out (by kernel_rfl)) (by decide) (fun K hK => ?_)
                          refine goes_ Tryd.func10 (by kernel_rfl) rfl #[.agg #[.int .i64 a0_0, .int .i64 a0_1]] (by rfl) rfl rfl MP_ ?_
                          with_reducible refine (warrantorref07_Plain.calls k a0_0 a0_1 t377 t378 _ A10.out).mono ?_
                          rintro e w49 ⟨rfl, hb⟩
                          refine ⟨_, rfl, ?_⟩
                          have n0_ := Aside0.mk (blk_below (g := gb369) (o := .cells #[.int .i64 a0_0, .int .i64 a0_1] 23 (0, 0)) (bk_ BK369.out) hb)
                          have n1_ := Aside0.mk (blk_below (g := gb370) (o := .cells #[.int .i64 a1_0, .int .i64 a1_1] 23 (0, 0)) (bk_ BK370.out) hb)
                          have n2_ := Aside0.mk (below_step HB_ hb)
                          clear BK369
                          clear BK370
                          clear HB
                          have BK369 := n0_
                          have BK370 := n1_
                          have HB := n2_
                          clear n0_ n1_ n2_
                          (try clear hb)
                          (try clear hb2)
                          (try clear hk)
                          (try clear hi)
                          refine hK.out _ _ ⟨(blk_cell BK369.out 0).trans rfl, (blk_cell BK369.out 1).trans rfl⟩ (fun hHeld => ?_)
                          clear hK K
                          refine norm_ (a' := ?_) ?_ ?_
                          rotate_left
                          · show Act.put _ (some 23) _ = _
                            simp only [Act.put, List.setIfInBounds_toArray, List.set_cons_zero, List.set_cons_succ, i64_w, i32_w]
                            rfl
                          refine pure_ (i := 18) (N := some 25) (v := ?_) (a' := ?_) #[true, true, true, true, true, true, true, true, true, true, true, true, true, true, true, true, true, true, true, false, false, false, false, false, false, false, false, false, false, false, false, false, false, false, false, false, false] rfl rfl (any_of HT_.out (by kernel_rfl)) (fun _ _ _ h => h) (Or.inl ⟨by rfl, ?_⟩) ?_ ?_
                          rotate_left
                          · intro w'
                            go_simp
                            with_reducible rfl
                          rotate_left
                          · exact AP_
                          refine pure_ (i := 19) (N := some 26) (v := ?_) (a' := ?_) #[true, true, true, true, true, true, true, true, true, true, true, true, true, true, true, true, true, true, true, true, false, false, false, false, false, false, false, false, false, false, false, false, false, false, false, false, false] rfl rfl (any_of HT_.out (by kernel_rfl)) (fun _ _ _ h => h) (Or.inl ⟨by rfl, ?_⟩) ?_ ?_
                          rotate_left
                          · intro w'
                            go_simp
                            with_reducible rfl
                          rotate_left
                          · exact AP_
                          refine pure_ (i := 20) (N := some 27) (v := ?_) (a' := ?_) #[true, true, true, true, true, true, true, true, true, true, true, true, true, true, true, true, true, true, true, true, true, false, false, false, false, false, false, false, false, false, false, false, false, false, false, false, false] rfl rfl (any_of HT_.out (by kernel_rfl)) (fun _ _ _ h => h) (Or.inl ⟨by rfl, ?_⟩) ?_ ?_
                          rotate_left
                          · intro w'
                            go_simp
                            with_reducible rfl
                          rotate_left
                          · exact AP_
                          refine pure_ (i := 21) (N := some 28) (v := ?_) (a' := ?_) #[true, true, true, true, true, true, true, true, true, true, true, true, true, true, true, true, true, true, true, true, true, true, false, false, false, false, false, false, false, false, false, false, false, false, false, false, false] rfl rfl (any_of HT_.out (by kernel_rfl)) (fun _ _ _ h => h) (Or.inl ⟨by rfl, ?_⟩) ?_ ?_
                          rotate_left
                          · intro w'
                            go_simp
                            with_reducible rfl
                          rotate_left
                          · exact AP_
                          refine take_ (i := 22) (N := some 29) (v := ?_) (a' := ?_) #[true, true, true, true, true, true, true, true, true, true, true, true, true, true, true, true, true, true, true, true, true, true, true, false, false, false, false, false, false, false, false, false, false, false, false, false, false] rfl rfl (take_ofW HT_.out HW_.out (by kernel_rfl)) (fun _ _ _ h => h) (Or.inl ⟨by rfl, ?_⟩) hHeld ?_ ?_
                          rotate_left
                          · rintro w' ⟨s0, s1⟩
                            go_simp
                            with_reducible rfl
                          rotate_left
                          · exact AP_
                          refine take_ (i := 24) (N := some 31) (v := ?_) (a' := ?_) #[true, true, true, true, true, true, true, true, true, true, true, true, true, true, true, true, true, true, true, true, true, true, true, false, true, false, false, false, false, false, false, false, false, false, false, false, false] rfl rfl (take_ofW HT_.out HW_.out (by kernel_rfl)) (fun _ _ _ h => h) (Or.inl ⟨by rfl, ?_⟩) hHeld ?_ ?_
                          rotate_left
                          · rintro w' ⟨s0, s1⟩
                            go_simp
                            with_reducible rfl
                          rotate_left
                          · exact AP_
                          refine one_ (i := 23) (N := some 30) #[true, true, true, true, true, true, true, true, true, true, true, true, true, true, true, true, true, true, true, true, true, true, true, true, true, false, false, false, false, false, false, false, false, false, false, false, false] rfl rfl (one_of HT_.out (by kernel_rfl)) (by decide) (fun K hK => ?_)
                          refine goes_ Tryd.func12 (by kernel_rfl) rfl #[.agg #[.int .i64 a0_0, .int .i64 a0_1]] (by rfl) rfl rfl MP_ ?_
                          with_reducible refine (itv_Size.calls a0_0 a0_1 t379 _ A12.out).mono ?_
                          rintro e w50 ⟨rfl, hb⟩
                          refine ⟨_, rfl, ?_⟩
                          have n0_ := Aside0.mk (blk_below (g := gb369) (o := .cells #[.int .i64 a0_0, .int .i64 a0_1] 23 (0, 0)) (bk_ BK369.out) hb)
                          have n1_ := Aside0.mk (blk_below (g := gb370) (o := .cells #[.int .i64 a1_0, .int .i64 a1_1] 23 (0, 0)) (bk_ BK370.out) hb)
                          have n2_ := Aside0.mk (below_step HB_ hb)
                          clear BK369
                          clear BK370
                          clear HB
                          have BK369 := n0_
                          have BK370 := n1_
                          have HB := n2_
                          clear n0_ n1_ n2_
                          (try clear hb)
                          (try clear hb2)
                          (try clear hk)
                          (try clear hi)
                          refine hK.out _ _ ⟨(blk_cell BK369.out 0).trans rfl, (blk_cell BK369.out 1).trans rfl⟩ (fun hHeld => ?_)
                          clear hK K
                          refine norm_ (a' := ?_) ?_ ?_
                          rotate_left
                          · show Act.put _ (some 30) _ = _
                            simp only [Act.put, List.setIfInBounds_toArray, List.set_cons_zero, List.set_cons_succ, i64_w, i32_w]
                            rfl
                          refine one_ (i := 25) (N := some 32) #[true, true, true, true, true, true, true, true, true, true, true, true, true, true, true, true, true, true, true, true, true, true, true, true, true, true, false, false, false, false, false, false, false, false, false, false, false] rfl rfl (one_of HT_.out (by kernel_rfl)) (by decide) (fun K hK => ?_)
                          refine goes_ Tryd.func13 (by kernel_rfl) rfl #[.agg #[.int .i64 a0_0, .int .i64 a0_1]] (by rfl) rfl rfl MP_ ?_
                          with_reducible refine (warrantorref07_Size.calls k a0_0 a0_1 t380 _ A13.out).mono ?_
                          rintro e w51 ⟨rfl, hb⟩
                          refine ⟨_, rfl, ?_⟩
                          have n0_ := Aside0.mk (blk_below (g := gb369) (o := .cells #[.int .i64 a0_0, .int .i64 a0_1] 23 (0, 0)) (bk_ BK369.out) hb)
                          have n1_ := Aside0.mk (blk_below (g := gb370) (o := .cells #[.int .i64 a1_0, .int .i64 a1_1] 23 (0, 0)) (bk_ BK370.out) hb)
                          have n2_ := Aside0.mk (below_step HB_ hb)
                          clear BK369
                          clear BK370
                          clear HB
                          have BK369 := n0_
                          have BK370 := n1_
                          have HB := n2_
                          clear n0_ n1_ n2_
                          (try clear hb)
                          (try clear hb2)
                          (try clear hk)
                          (try clear hi)
                          refine hK.out _ _ ⟨(blk_cell BK369.out 0).trans rfl, (blk_cell BK369.out 1).trans rfl⟩ (fun hHeld => ?_)
                          clear hK K
                          refine norm_ (a' := ?_) ?_ ?_
                          rotate_left
                          · show Act.put _ (some 32) _ = _
                            simp only [Act.put, List.setIfInBounds_toArray, List.set_cons_zero, List.set_cons_succ, i64_w, i32_w]
                            rfl
                          refine pure_ (i := 26) (N := some 33) (v := ?_) (a' := ?_) #[true, true, true, true, true, true, true, true, true, true, true, true, true, true, true, true, true, true, true, true, true, true, true, true, true, true, true, false, false, false, false, false, false, false, false, false, false] rfl rfl (any_of HT_.out (by kernel_rfl)) (fun _ _ _ h => h) (Or.inl ⟨by rfl, ?_⟩) ?_ ?_
                          rotate_left
                          · intro w'
                            go_simp
                            with_reducible rfl
                          rotate_left
                          · exact AP_
                          refine pure_ (i := 27) (N := some 34) (v := ?_) (a' := ?_) #[true, true, true, true, true, true, true, true, true, true, true, true, true, true, true, true, true, true, true, true, true, true, true, true, true, true, true, true, false, false, false, false, false, false, false, false, false] rfl rfl (any_of HT_.out (by kernel_rfl)) (fun _ _ _ h => h) (Or.inl ⟨by rfl, ?_⟩) ?_ ?_
                          rotate_left
                          · intro w'
                            go_simp
                            with_reducible rfl
                          rotate_left
                          · exact AP_
                          refine pure_ (i := 28) (N := some 35) (v := ?_) (a' := ?_) #[true, true, true, true, true, true, true, true, true, true, true, true, true, true, true, true, true, true, true, true, true, true, true, true, true, true, true, true, true, false, false, false, false, false, false, false, false] rfl rfl (any_of HT_.out (by kernel_rfl)) (fun _ _ _ h => h) (Or.inl ⟨by rfl, ?_⟩) ?_ ?_
                          rotate_left
                          · intro w'
                            go_simp
                            with_reducible rfl
                          rotate_left
                          · exact AP_
                          refine pure_ (i := 30) (N := some 37) (v := ?_) (a' := ?_) #[true, true, true, true, true, true, true, true, true, true, true, true, true, true, true, true, true, true, true, true, true, true, true, true, true, true, true, true, true, false, true, false, false, false, false, false, false] rfl rfl (any_of HT_.out (by kernel_rfl)) (fun _ _ _ h => h) (Or.inl ⟨by rfl, ?_⟩) ?_ ?_
                          rotate_left
                          · intro w'
                            go_simp
                            with_reducible rfl
                          rotate_left
                          · exact AP_
                          refine pure_ (i := 33) (N := some 40) (v := ?_) (a' := ?_) #[true, true, true, true, true, true, true, true, true, true, true, true, true, true, true, true, true, true, true, true, true, true, true, true, true, true, true, true, true, false, true, false, false, true, false, false, false] rfl rfl (any_of HT_.out (by kernel_rfl)) (fun _ _ _ h => h) (Or.inl ⟨by rfl, ?_⟩) ?_ ?_
                          rotate_left
                          · intro w'
                            go_simp
                            with_reducible rfl
                          rotate_left
                          · exact AP_
                          refine take_ (i := 29) (N := some 36) (v := ?_) (a' := ?_) #[true, true, true, true, true, true, true, true, true, true, true, true, true, true, true, true, true, true, true, true, true, true, true, true, true, true, true, true, true, true, true, false, false, true, false, false, false] rfl rfl (take_ofW HT_.out HW_.out (by kernel_rfl)) (fun _ _ _ h => h) (Or.inl ⟨by rfl, ?_⟩) hHeld ?_ ?_
                          rotate_left
                          · rintro w' ⟨s0, s1⟩
                            go_simp
                            with_reducible rfl
                          rotate_left
                          · exact AP_
                          refine take_ (i := 32) (N := some 39) (v := ?_) (a' := ?_) #[true, true, true, true, true, true, true, true, true, true, true, true, true, true, true, true, true, true, true, true, true, true, true, true, true, true, true, true, true, true, true, false, true, true, false, false, false] rfl rfl (take_ofW HT_.out HW_.out (by kernel_rfl)) (fun _ _ _ h => h) (Or.inl ⟨by rfl, ?_⟩) hHeld ?_ ?_
                          rotate_left
                          · rintro w' ⟨s0, s1⟩
                            go_simp
                            with_reducible rfl
                          rotate_left
                          · exact AP_
                          refine one_ (i := 31) (N := some 38) #[true, true, true, true, true, true, true, true, true, true, true, true, true, true, true, true, true, true, true, true, true, true, true, true, true, true, true, true, true, true, true, true, true, true, false, false, false] rfl rfl (one_of HT_.out (by kernel_rfl)) (by decide) (fun K hK => ?_)
                          refine goes_ Tryd.func14 (by kernel_rfl) rfl #[.agg #[.int .i64 a0_0, .int .i64 a0_1], .int .i64 a2] (by rfl) rfl rfl MP_ ?_
                          with_reducible refine (itv_Has.calls a0_0 a0_1 a2 t381 _ A15.out).mono ?_
                          rintro e w52 ⟨rfl, hb⟩
                          refine ⟨_, rfl, ?_⟩
                          have n0_ := Aside0.mk (blk_below (g := gb369) (o := .cells #[.int .i64 a0_0, .int .i64 a0_1] 23 (0, 0)) (bk_ BK369.out) hb)
                          have n1_ := Aside0.mk (blk_below (g := gb370) (o := .cells #[.int .i64 a1_0, .int .i64 a1_1] 23 (0, 0)) (bk_ BK370.out) hb)
                          have n2_ := Aside0.mk (below_step HB_ hb)
                          clear BK369
                          clear BK370
                          clear HB
                          have BK369 := n0_
                          have BK370 := n1_
                          have HB := n2_
                          clear n0_ n1_ n2_
                          (try clear hb)
                          (try clear hb2)
                          (try clear hk)
                          (try clear hi)
                          refine hK.out _ _ ⟨(blk_cell BK369.out 0).trans rfl, (blk_cell BK369.out 1).trans rfl⟩ (fun hHeld => ?_)
                          clear hK K
                          refine norm_ (a' := ?_) ?_ ?_
                          rotate_left
                          · show Act.put _ (some 38) _ = _
                            simp only [Act.put, List.setIfInBounds_toArray, List.set_cons_zero, List.set_cons_succ, i64_w, i32_w]
                            rfl
                          refine one_ (i := 34) (N := some 41) #[true, true, true, true, true, true, true, true, true, true, true, true, true, true, true, true, true, true, true, true, true, true, true, true, true, true, true, true, true, true, true, true, true, true, true, false, false] rfl rfl (one_of HT_.out (by kernel_rfl)) (by decide) (fun K hK => ?_)
                          refine goes_ Tryd.func15 (by kernel_rfl) rfl #[.agg #[.int .i64 a0_0, .int .i64 a0_1], .int .i64 a2] (by rfl) rfl rfl MP_ ?_
                          with_reducible refine (warrantorref07_Has.calls a0_0 a0_1 a2 t382 _ A16.out).mono ?_
                          rintro e w53 ⟨rfl, hb⟩
                          refine ⟨_, rfl, ?_⟩
                          have n0_ := Aside0.mk (blk_below (g := gb369) (o := .cells #[.int .i64 a0_0, .int .i64 a0_1] 23 (0, 0)) (bk_ BK369.out) hb)
                          have n1_ := Aside0.mk (blk_below (g := gb370) (o := .cells #[.int .i64 a1_0, .int .i64 a1_1] 23 (0, 0)) (bk_ BK370.out) hb)
                          have n2_ := Aside0.mk (below_step HB_ hb)
                          clear BK369
                          clear BK370
                          clear HB
                          have BK369 := n0_
                          have BK370 := n1_
                          have HB := n2_
                          clear n0_ n1_ n2_
                          (try clear hb)
                          (try clear hb2)
                          (try clear hk)
                          (try clear hi)
                          refine hK.out _ _ ⟨(blk_cell BK369.out 0).trans rfl, (blk_cell BK369.out 1).trans rfl⟩ (fun hHeld => ?_)
                          clear hK K
                          refine norm_ (a' := ?_) ?_ ?_
                          rotate_left
                          · show Act.put _ (some 41) _ = _
                            simp only [Act.put, List.setIfInBounds_toArray, List.set_cons_zero, List.set_cons_succ, i64_w, i32_w]
                            rfl
                          refine pure_ (i := 35) (N := some 42) (v := ?_) (a' := ?_) #[true, true, true, true, true, true, true, true, true, true, true, true, true, true, true, true, true, true, true, true, true, true, true, true, true, true, true, true, true, true, true, true, true, true, true, true, false] rfl rfl (any_of HT_.out (by kernel_rfl)) (fun _ _ _ h => h) (Or.inl ⟨by rfl, ?_⟩) ?_ ?_
                          rotate_left
                          · intro w'
                            go_simp
                            with_reducible rfl
                          rotate_left
                          · exact AP_
                          refine pure_ (i := 36) (N := some 43) (v := ?_) (a' := ?_) #[true, true, true, true, true, true, true, true, true, true, true, true, true, true, true, true, true, true, true, true, true, true, true, true, true, true, true, true, true, true, true, true, true, true, true, true, true] rfl rfl (any_of HT_.out (by kernel_rfl)) (fun _ _ _ h => h) (Or.inl ⟨by rfl, ?_⟩) ?_ ?_
                          rotate_left
                          · intro w'
                            go_simp
                            with_reducible rfl
                          rotate_left
                          · exact AP_
                          refine done_ (done_of HT_.out (by kernel_rfl)) ?_
                          try go_wp2
                          first | (obtain ⟨w53, hq_⟩ : ∃ x, x = w53.drewN nd := ⟨_, rfl⟩; rw [← hq_]; have q0_ := Aside0.mk (blk_drewN BK369.out nd); rw [← hq_] at q0_; have q1_ := Aside0.mk (blk_drewN BK370.out nd); rw [← hq_] at q1_; have q2_ := Aside0.mk (pw_below_drewN HB.out nd); rw [← hq_] at q2_; clear BK369; clear BK370; clear HB; have BK369 := q0_; have BK370 := q1_; have HB := q2_; clear hq_ q0_ q1_ q2_) | skip
                          have n0_ := Aside0.mk (blk_drew BK369.out)
                          have n1_ := Aside0.mk (blk_drew BK370.out)
                          have n2_ := Aside0.mk (below_drew1 HB.out)
                          clear BK369
                          clear BK370
                          clear HB
                          have BK369 := n0_
                          have BK370 := n1_
                          have HB := n2_
                          clear n0_ n1_ n2_
                          refine start_ (n := 36) (S := fun w' => w'.cell? ⟨gb369, 0, none⟩ = some (.int .i64 a0_0) ∧ w'.cell? ⟨gb369, 1, none⟩ = some (.int .i64 a0_1) ∧ w'.cell? ⟨gb370, 0, none⟩ = some (.int .i64 a1_0) ∧ w'.cell? ⟨gb370, 1, none⟩ = some (.int .i64 a1_1)) (ds := []) #[false, false, false, false, false, false, false, false, false, false, false, false, false, false, false, false, false, false, false, false, false, false, false, false, false, false, false, false, false, false, false, false, false, false, false, false] (by kernel_rfl) rfl rfl ⟨(blk_cell BK369.out 0).trans rfl, (blk_cell BK369.out 1).trans rfl, (blk_cell BK370.out 0).trans rfl, (blk_cell BK370.out 1).trans rfl⟩ (fun hHeld => ?_); refine with_tabW warrantorlaw07_ItvTells.tab3 warrantorlaw07_ItvTells.bits3 (fun HT_ HW_ => ?_)
                          generalize w53.drew = w54 at BK369 BK370 HB hHeld ⊢
                          refine take_ (i := 0) (N := some 44) (v := ?_) (a' := ?_) #[true, false, false, false, false, false, false, false, false, false, false, false, false, false, false, false, false, false, false, false, false, false, false, false, false, false, false, false, false, false, false, false, false, false, false, false] rfl rfl (take_ofW HT_.out HW_.out (by kernel_rfl)) (fun _ _ _ h => h) (Or.inl ⟨by rfl, ?_⟩) hHeld ?_ ?_
                          rotate_left
                          · rintro w' ⟨s0, s1, s2, s3⟩
                            go_simp
                            with_reducible rfl
                          rotate_left
                          · exact AP_
                          refine take_ (i := 1) (N := some 45) (v := ?_) (a' := ?_) #[true, true, false, false, false, false, false, false, false, false, false, false, false, false, false, false, false, false, false, false, false, false, false, false, false, false, false, false, false, false, false, false, false, false, false, false] rfl rfl (take_ofW HT_.out HW_.out (by kernel_rfl)) (fun _ _ _ h => h) (Or.inl ⟨by rfl, ?_⟩) hHeld ?_ ?_
                          rotate_left
                          · rintro w' ⟨s0, s1, s2, s3⟩
                            go_simp
                            with_reducible rfl
                          rotate_left
                          · exact AP_
                          refine take_ (i := 3) (N := some 47) (v := ?_) (a' := ?_) #[true, true, false, true, false, false, false, false, false, false, false, false, false, false, false, false, false, false, false, false, false, false, false, false, false, false, false, false, false, false, false, false, false, false, false, false] rfl rfl (take_ofW HT_.out HW_.out (by kernel_rfl)) (fun _ _ _ h => h) (Or.inl ⟨by rfl, ?_⟩) hHeld ?_ ?_
                          rotate_left
                          · rintro w' ⟨s0, s1, s2, s3⟩
                            go_simp
                            with_reducible rfl
                          rotate_left
                          · exact AP_
                          refine take_ (i := 4) (N := some 48) (v := ?_) (a' := ?_) #[true, true, false, true, true, false, false, false, false, false, false, false, false, false, false, false, false, false, false, false, false, false, false, false, false, false, false, false, false, false, false, false, false, false, false, false] rfl rfl (take_ofW HT_.out HW_.out (by kernel_rfl)) (fun _ _ _ h => h) (Or.inl ⟨by rfl, ?_⟩) hHeld ?_ ?_
                          rotate_left
                          · rintro w' ⟨s0, s1, s2, s3⟩
                            go_simp
                            with_reducible rfl
                          rotate_left
                          · exact AP_
                          refine one_ (i := 2) (N := some 46) #[true, true, true, true, true, false, false, false, false, false, false, false, false, false, false, false, false, false, false, false, false, false, false, false, false, false, false, false, false, false, false, false, false, false, false, false] rfl rfl (one_of HT_.out (by kernel_rfl)) (by decide) (fun K hK => ?_)
                          refine goes_ Tryd.func16 (by kernel_rfl) rfl #[.agg #[.int .i64 a0_0, .int .i64 a0_1], .agg #[.int .i64 a1_0, .int .i64 a1_1]] (by rfl) rfl rfl MP_ ?_
                          with_reducible refine (itv_Leq.calls a0_0 a0_1 a1_0 a1_1 t383 _ A18.out).mono ?_
                          rintro e w55 ⟨rfl, hb⟩
                          refine ⟨_, rfl, ?_⟩
                          have n0_ := Aside0.mk (blk_below (g := gb369) (o := .cells #[.int .i64 a0_0, .int .i64 a0_1] 23 (0, 0)) (bk_ BK369.out) hb)
                          have n1_ := Aside0.mk (blk_below (g := gb370) (o := .cells #[.int .i64 a1_0, .int .i64 a1_1] 23 (0, 0)) (bk_ BK370.out) hb)
                          have n2_ := Aside0.mk (below_step HB_ hb)
                          clear BK369
                          clear BK370
                          clear HB
                          have BK369 := n0_
                          have BK370 := n1_
                          have HB := n2_
                          clear n0_ n1_ n2_
                          (try clear hb)
                          (try clear hb2)
                          (try clear hk)
                          (try clear hi)
                          refine hK.out _ _ ⟨(blk_cell BK369.out 0).trans rfl, (blk_cell BK369.out 1).trans rfl, (blk_cell BK370.out 0).trans rfl, (blk_cell BK370.out 1).trans rfl⟩ (fun hHeld => ?_)
                          clear hK K
                          refine norm_ (a' := ?_) ?_ ?_
                          rotate_left
                          · show Act.put _ (some 46) _ = _
                            simp only [Act.put, List.setIfInBounds_toArray, List.set_cons_zero, List.set_cons_succ, i64_w, i32_w]
                            rfl
                          refine one_ (i := 5) (N := some 49) #[true, true, true, true, true, true, false, false, false, false, false, false, false, false, false, false, false, false, false, false, false, false, false, false, false, false, false, false, false, false, false, false, false, false, false, false] rfl rfl (one_of HT_.out (by kernel_rfl)) (by decide) (fun K hK => ?_)
                          refine goes_ Tryd.func17 (by kernel_rfl) rfl #[.agg #[.int .i64 a0_0, .int .i64 a0_1], .agg #[.int .i64 a1_0, .int .i64 a1_1]] (by rfl) rfl rfl MP_ ?_
                          with_reducible refine (warrantorref07_Leq.calls k a0_0 a0_1 a1_0 a1_1 t384 _ A19.out).mono ?_
                          rintro e w56 ⟨rfl, hb⟩
                          refine ⟨_, rfl, ?_⟩
                          have n0_ := Aside0.mk (blk_below (g := gb369) (o := .cells #[.int .i64 a0_0, .int .i64 a0_1] 23 (0, 0)) (bk_ BK369.out) hb)
                          have n1_ := Aside0.mk (blk_below (g := gb370) (o := .cells #[.int .i64 a1_0, .int .i64 a1_1] 23 (0, 0)) (bk_ BK370.out) hb)
                          have n2_ := Aside0.mk (below_step HB_ hb)
                          clear BK369
                          clear BK370
                          clear HB
                          have BK369 := n0_
                          have BK370 := n1_
                          have HB := n2_
                          clear n0_ n1_ n2_
                          (try clear hb)
                          (try clear hb2)
                          (try clear hk)
                          (try clear hi)
                          refine hK.out _ _ ⟨(blk_cell BK369.out 0).trans rfl, (blk_cell BK369.out 1).trans rfl, (blk_cell BK370.out 0).trans rfl, (blk_cell BK370.out 1).trans rfl⟩ (fun hHeld => ?_)
                          clear hK K
                          refine norm_ (a' := ?_) ?_ ?_
                          rotate_left
                          · show Act.put _ (some 49) _ = _
                            simp only [Act.put, List.setIfInBounds_toArray, List.set_cons_zero, List.set_cons_succ, i64_w, i32_w]
                            rfl
                          refine pure_ (i := 6) (N := some 50) (v := ?_) (a' := ?_) #[true, true, true, true, true, true, true, false, false, false, false, false, false, false, false, false, false, false, false, false, false, false, false, false, false, false, false, false, false, false, false, false, false, false, false, false] rfl rfl (any_of HT_.out (by kernel_rfl)) (fun _ _ _ h => h) (Or.inl ⟨by rfl, ?_⟩) ?_ ?_
                          rotate_left
                          · intro w'
                            go_simp
                            with_reducible rfl
                          rotate_left
                          · exact AP_
                          refine pure_ (i := 7) (N := some 51) (v := ?_) (a' := ?_) #[true, true, true, true, true, true, true, true, false, false, false, false, false, false, false, false, false, false, false, false, false, false, false, false, false, false, false, false, false, false, false, false, false, false, false, false] rfl rfl (any_of HT_.out (by kernel_rfl)) (fun _ _ _ h => h) (Or.inl ⟨by rfl, ?_⟩) ?_ ?_
                          rotate_left
                          · intro w'
                            go_simp
                            with_reducible rfl
                          rotate_left
                          · exact AP_
                          refine take_ (i := 8) (N := some 52) (v := ?_) (a' := ?_) #[true, true, true, true, true, true, true, true, true, false, false, false, false, false, false, false, false, false, false, false, false, false, false, false, false, false, false, false, false, false, false, false, false, false, false, false] rfl rfl (take_ofW HT_.out HW_.out (by kernel_rfl)) (fun _ _ _ h => h) (Or.inl ⟨by rfl, ?_⟩) hHeld ?_ ?_
                          rotate_left
                          · rintro w' ⟨s0, s1, s2, s3⟩
                            go_simp
                            with_reducible rfl
                          rotate_left
                          · exact AP_
                          refine take_ (i := 9) (N := some 53) (v := ?_) (a' := ?_) #[true, true, true, true, true, true, true, true, true, true, false, false, false, false, false, false, false, false, false, false, false, false, false, false, false, false, false, false, false, false, false, false, false, false, false, false] rfl rfl (take_ofW HT_.out HW_.out (by kernel_rfl)) (fun _ _ _ h => h) (Or.inl ⟨by rfl, ?_⟩) hHeld ?_ ?_
                          rotate_left
                          · rintro w' ⟨s0, s1, s2, s3⟩
                            go_simp
                            with_reducible rfl
                          rotate_left
                          · exact AP_
                          refine take_ (i := 11) (N := some 55) (v := ?_) (a' := ?_) #[true, true, true, true, true, true, true, true, true, true, false, true, false, false, false, false, false, false, false, false, false, false, false, false, false, false, false, false, false, false, false, false, false, false, false, false] rfl rfl (take_ofW HT_.out HW_.out (by kernel_rfl)) (fun _ _ _ h => h) (Or.inl ⟨by rfl, ?_⟩) hHeld ?_ ?_
                          rotate_left
                          · rintro w' ⟨s0, s1, s2, s3⟩
                            go_simp
                            with_reducible rfl
                          rotate_left
                          · exact AP_
                          refine take_ (i := 13) (N := some 57) (v := ?_) (a' := ?_) #[true, true, true, true, true, true, true, true, true, true, false, true, false, true, false, false, false, false, false, false, false, false, false, false, false, false, false, false, false, false, false, false, false, false, false, false] rfl rfl (take_ofW HT_.out HW_.out (by kernel_rfl)) (fun _ _ _ h => h) (Or.inl ⟨by rfl, ?_⟩) hHeld ?_ ?_
                          rotate_left
                          · rintro w' ⟨s0, s1, s2, s3⟩
                            go_simp
                            with_reducible rfl
                          rotate_left
                          · exact AP_
                          refine one_ (i := 10) (N := some 54) #[true, true, true, true, true, true, true, true, true, true, true, true, false, true, false, false, false, false, false, false, false, false, false, false, false, false, false, false, false, false, false, false, false, false, false, false] rfl rfl (one_of HT_.out (by kernel_rfl)) (by decide) (fun K hK => ?_)
                          refine goes_ Tryd.func18 (by kernel_rfl) rfl #[.agg #[.int .i64 a0_0, .int .i64 a0_1], .agg #[.int .i64 a1_0, .int .i64 a1_1]] (by rfl) rfl rfl MP_ ?_
                          with_reducible refine (itv_Same.calls a0_0 a0_1 a1_0 a1_1 t385 _ A21.out).mono ?_
                          rintro e w57 ⟨rfl, hb⟩
                          refine ⟨_, rfl, ?_⟩
                          have n0_ := Aside0.mk (blk_below (g := gb369) (o := .cells #[.int .i64 a0_0, .int .i64 a0_1] 23 (0, 0)) (bk_ BK369.out) hb)
                          have n1_ := Aside0.mk (blk_below (g := gb370) (o := .cells #[.int .i64 a1_0, .int .i64 a1_1] 23 (0, 0)) (bk_ BK370.out) hb)
                          have n2_ := Aside0.mk (below_step HB_ hb)
                          clear BK369
                          clear BK370
                          clear HB
                          have BK369 := n0_
                          have BK370 := n1_
                          have HB := n2_
                          clear n0_ n1_ n2_
                          (try clear hb)
                          (try clear hb2)
                          (try clear hk)
                          (try clear hi)
                          refine hK.out _ _ ⟨(blk_cell BK369.out 0).trans rfl, (blk_cell BK369.out 1).trans rfl, (blk_cell BK370.out 0).trans rfl, (blk_cell BK370.out 1).trans rfl⟩ (fun hHeld => ?_)
                          clear hK K
                          refine norm_ (a' := ?_) ?_ ?_
                          rotate_left
                          · show Act.put _ (some 54) _ = _
                            simp only [Act.put, List.setIfInBounds_toArray, List.set_cons_zero, List.set_cons_succ, i64_w, i32_w]
                            rfl
                          refine one_ (i := 12) (N := some 56) #[true, true, true, true, true, true, true, true, true, true, true, true, true, true, false, false, false, false, false, false, false, false, false, false, false, false, false, false, false, false, false, false, false, false, false, false] rfl rfl (one_of HT_.out (by kernel_rfl)) (by decide) (fun K hK => ?_)
                          refine goes_ Tryd.func10 (by kernel_rfl) rfl #[.agg #[.int .i64 a0_0, .int .i64 a0_1]] (by rfl) rfl rfl MP_ ?_
                          with_reducible refine (warrantorref07_Plain.calls k a0_0 a0_1 t386 t387 _ A22.out).mono ?_
                          rintro e w58 ⟨rfl, hb⟩
                          refine ⟨_, rfl, ?_⟩
                          have n0_ := Aside0.mk (blk_below (g := gb369) (o := .cells #[.int .i64 a0_0, .int .i64 a0_1] 23 (0, 0)) (bk_ BK369.out) hb)
                          have n1_ := Aside0.mk (blk_below (g := gb370) (o := .cells #[.int .i64 a1_0, .int .i64 a1_1] 23 (0, 0)) (bk_ BK370.out) hb)
                          have n2_ := Aside0.mk (below_step HB_ hb)
                          clear BK369
                          clear BK370
                          clear HB
                          have BK369 := n0_
                          have BK370 := n1_
                          have HB := n2_
                          clear n0_ n1_ n2_
                          (try clear hb)
                          (try clear hb2)
                          (try clear hk)
                          (try clear hi)
                          refine hK.out _ _ ⟨(blk_cell BK369.out 0).trans rfl, (blk_cell BK369.out 1).trans rfl, (blk_cell BK370.out 0).trans rfl, (blk_cell BK370.out 1).trans rfl⟩ (fun hHeld => ?_)
                          clear hK K
                          refine norm_ (a' := ?_) ?_ ?_
                          rotate_left
                          · show Act.put _ (some 56) _ = _
                            simp only [Act.put, List.setIfInBounds_toArray, List.set_cons_zero, List.set_cons_succ, i64_w, i32_w]
                            rfl
                          refine one_ (i := 14) (N := some 58) #[true, true, true, true, true, true, true, true, true, true, true, true, true, true, true, false, false, false, false, false, false, false, false, false, false, false, false, false, false, false, false, false, false, false, false, false] rfl rfl (one_of HT_.out (by kernel_rfl)) (by decide) (fun K hK => ?_)
                          refine goes_ Tryd.func10 (by kernel_rfl) rfl #[.agg #[.int .i64 a1_0, .int .i64 a1_1]] (by rfl) rfl rfl MP_ ?_
                          with_reducible refine (warrantorref07_Plain.calls k a1_0 a1_1 t388 t389 _ A23.out).mono ?_
                          rintro e w59 ⟨rfl, hb⟩
                          refine ⟨_, rfl, ?_⟩
                          have n0_ := Aside0.mk (blk_below (g := gb369) (o := .cells #[.int .i64 a0_0, .int .i64 a0_1] 23 (0, 0)) (bk_ BK369.out) hb)
                          have n1_ := Aside0.mk (blk_below (g := gb370) (o := .cells #[.int .i64 a1_0, .int .i64 a1_1] 23 (0, 0)) (bk_ BK370.out) hb)
                          have n2_ := Aside0.mk (below_step HB_ hb)
                          clear BK369
                          clear BK370
                          clear HB
                          have BK369 := n0_
                          have BK370 := n1_
                          have HB := n2_
                          clear n0_ n1_ n2_
                          (try clear hb)
                          (try clear hb2)
                          (try clear hk)
                          (try clear hi)
                          refine hK.out _ _ ⟨(blk_cell BK369.out 0).trans rfl, (blk_cell BK369.out 1).trans rfl, (blk_cell BK370.out 0).trans rfl, (blk_cell BK370.out 1).trans rfl⟩ (fun hHeld => ?_)
                          clear hK K
                          refine norm_ (a' := ?_) ?_ ?_
                          rotate_left
                          · show Act.put _ (some 58) _ = _
                            simp only [Act.put, List.setIfInBounds_toArray, List.set_cons_zero, List.set_cons_succ, i64_w, i32_w]
                            rfl
                          refine pure_ (i := 15) (N := some 59) (v := ?_) (a' := ?_) #[true, true, true, true, true, true, true, true, true, true, true, true, true, true, true, true, false, false, false, false, false, false, false, false, false, false, false, false, false, false, false, false, false, false, false, false] rfl rfl (any_of HT_.out (by kernel_rfl)) (fun _ _ _ h => h) (Or.inl ⟨by rfl, ?_⟩) ?_ ?_
                          rotate_left
                          · intro w'
                            go_simp
                            with_reducible rfl
                          rotate_left
                          · exact AP_
                          refine pure_ (i := 16) (N := some 60) (v := ?_) (a' := ?_) #[true, true, true, true, true, true, true, true, true, true, true, true, true, true, true, true, true, false, false, false, false, false, false, false, false, false, false, false, false, false, false, false, false, false, false, false] rfl rfl (any_of HT_.out (by kernel_rfl)) (fun _ _ _ h => h) (Or.inl ⟨by rfl, ?_⟩) ?_ ?_
                          rotate_left
                          · intro w'
                            go_simp
                            with_reducible rfl
                          rotate_left
                          · exact AP_
                          refine pure_ (i := 17) (N := some 61) (v := ?_) (a' := ?_) #[true, true, true, true, true, true, true, true, true, true, true, true, true, true, true, true, true, true, false, false, false, false, false, false, false, false, false, false, false, false, false, false, false, false, false, false] rfl rfl (any_of HT_.out (by kernel_rfl)) (fun _ _ _ h => h) (Or.inl ⟨by rfl, ?_⟩) ?_ ?_
                          rotate_left
                          · intro w'
                            go_simp
                            with_reducible rfl
                          rotate_left
                          · exact AP_
                          refine pure_ (i := 18) (N := some 62) (v := ?_) (a' := ?_) #[true, true, true, true, true, true, true, true, true, true, true, true, true, true, true, true, true, true, true, false, false, false, false, false, false, false, false, false, false, false, false, false, false, false, false, false] rfl rfl (any_of HT_.out (by kernel_rfl)) (fun _ _ _ h => h) (Or.inl ⟨by rfl, ?_⟩) ?_ ?_
                          rotate_left
                          · intro w'
                            go_simp
                            with_reducible rfl
                          rotate_left
                          · exact AP_
                          refine take_ (i := 19) (N := some 63) (v := ?_) (a' := ?_) #[true, true, true, true, true, true, true, true, true, true, true, true, true, true, true, true, true, true, true, true, false, false, false, false, false, false, false, false, false, false, false, false, false, false, false, false] rfl rfl (take_ofW HT_.out HW_.out (by kernel_rfl)) (fun _ _ _ h => h) (Or.inl ⟨by rfl, ?_⟩) hHeld ?_ ?_
                          rotate_left
                          · rintro w' ⟨s0, s1, s2, s3⟩
                            go_simp
                            with_reducible rfl
                          rotate_left
                          · exact AP_
                          refine take_ (i := 20) (N := some 64) (v := ?_) (a' := ?_) #[true, true, true, true, true, true, true, true, true, true, true, true, true, true, true, true, true, true, true, true, true, false, false, false, false, false, false, false, false, false, false, false, false, false, false, false] rfl rfl (take_ofW HT_.out HW_.out (by kernel_rfl)) (fun _ _ _ h => h) (Or.inl ⟨by rfl, ?_⟩) hHeld ?_ ?_
                          rotate_left
                          · rintro w' ⟨s0, s1, s2, s3⟩
                            go_simp
                            with_reducible rfl
                          rotate_left
                          · exact AP_
                          refine take_ (i := 22) (N := some 66) (v := ?_) (a' := ?_) #[true, true, true, true, true, true, true, true, true, true, true, true, true, true, true, true, true, true, true, true, true, false, true, false, false, false, false, false, false, false, false, false, false, false, false, false] rfl rfl (take_ofW HT_.out HW_.out (by kernel_rfl)) (fun _ _ _ h => h) (Or.inl ⟨by rfl, ?_⟩) hHeld ?_ ?_
                          rotate_left
                          · rintro w' ⟨s0, s1, s2, s3⟩
                            go_simp
                            with_reducible rfl
                          rotate_left
                          · exact AP_
                          refine take_ (i := 23) (N := some 67) (v := ?_) (a' := ?_) #[true, true, true, true, true, true, true, true, true, true, true, true, true, true, true, true, true, true, true, true, true, false, true, true, false, false, false, false, false, false, false, false, false, false, false, false] rfl rfl (take_ofW HT_.out HW_.out (by kernel_rfl)) (fun _ _ _ h => h) (Or.inl ⟨by rfl, ?_⟩) hHeld ?_ ?_
                          rotate_left
                          · rintro w' ⟨s0, s1, s2, s3⟩
                            go_simp
                            with_reducible rfl
                          rotate_left
                          · exact AP_
                          refine one_ (i := 21) (N := some 65) #[true, true, true, true, true, true, true, true, true, true, true, true, true, true, true, true, true, true, true, true, true, true, true, true, false, false, false, false, false, false, false, false, false, false, false, false] rfl rfl (one_of HT_.out (by kernel_rfl)) (by decide) (fun K hK => ?_)
                          refine goes_ Tryd.func19 (by kernel_rfl) rfl #[.agg #[.int .i64 a0_0, .int .i64 a0_1], .agg #[.int .i64 a1_0, .int .i64 a1_1]] (by rfl) rfl rfl MP_ ?_
                          with_reducible refine (itv_Join.calls a0_0 a0_1 a1_0 a1_1 t390 t391 _ A25.out).mono ?_
                          rintro e w60 ⟨rfl, hb⟩
                          refine ⟨_, rfl, ?_⟩
                          have n0_ := Aside0.mk (blk_below (g := gb369) (o := .cells #[.int .i64 a0_0, .int .i64 a0_1] 23 (0, 0)) (bk_ BK369.out) hb)
                          have n1_ := Aside0.mk (blk_below (g := gb370) (o := .cells #[.int .i64 a1_0, .int .i64 a1_1] 23 (0, 0)) (bk_ BK370.out) hb)
                          have n2_ := Aside0.mk (below_step HB_ hb)
                          clear BK369
                          clear BK370
                          clear HB
                          have BK369 := n0_
                          have BK370 := n1_
                          have HB := n2_
                          clear n0_ n1_ n2_
                          (try clear hb)
                          (try clear hb2)
                          (try clear hk)
                          (try clear hi)
                          refine hK.out _ _ ⟨(blk_cell BK369.out 0).trans rfl, (blk_cell BK369.out 1).trans rfl, (blk_cell BK370.out 0).trans rfl, (blk_cell BK370.out 1).trans rfl⟩ (fun hHeld => ?_)
                          clear hK K
                          refine norm_ (a' := ?_) ?_ ?_
                          rotate_left
                          · show Act.put _ (some 65) _ = _
                            simp only [Act.put, List.setIfInBounds_toArray, List.set_cons_zero, List.set_cons_succ, i64_w, i32_w]
                            rfl
                          refine one_ (i := 24) (N := some 68) #[true, true, true, true, true, true, true, true, true, true, true, true, true, true, true, true, true, true, true, true, true, true, true, true, true, false, false, false, false, false, false, false, false, false, false, false] rfl rfl (one_of HT_.out (by kernel_rfl)) (by decide) (fun K hK => ?_)
                          refine goes_ Tryd.func20 (by kernel_rfl) rfl #[.agg #[.int .i64 a0_0, .int .i64 a0_1], .agg #[.int .i64 a1_0, .int .i64 a1_1]] (by rfl) rfl rfl MP_ ?_
                          with_reducible refine (warrantorref07_Join.calls k a0_0 a0_1 a1_0 a1_1 t392 t393 _ A26.out).mono ?_
                          rintro e w61 ⟨rfl, hb⟩
                          refine ⟨_, rfl, ?_⟩
                          have n0_ := Aside0.mk (blk_below (g := gb369) (o := .cells #[.int .i64 a0_0, .int .i64 a0_1] 23 (0, 0)) (bk_ BK369.out) hb)
                          have n1_ := Aside0.mk (blk_below (g := gb370) (o := .cells #[.int .i64 a1_0, .int .i64 a1_1] 23 (0, 0)) (bk_ BK370.out) hb)
                          have n2_ := Aside0.mk (below_step HB_ hb)
                          clear BK369
                          clear BK370
                          clear HB
                          have BK369 := n0_
                          have BK370 := n1_
                          have HB := n2_
                          clear n0_ n1_ n2_
                          (try clear hb)
                          (try clear hb2)
                          (try clear hk)
                          (try clear hi)
                          refine hK.out _ _ ⟨(blk_cell BK369.out 0).trans rfl, (blk_cell BK369.out 1).trans rfl, (blk_cell BK370.out 0).trans rfl, (blk_cell BK370.out 1).trans rfl⟩ (fun hHeld => ?_)
                          clear hK K
                          refine norm_ (a' := ?_) ?_ ?_
                          rotate_left
                          · show Act.put _ (some 68) _ = _
                            simp only [Act.put, List.setIfInBounds_toArray, List.set_cons_zero, List.set_cons_succ, i64_w, i32_w]
                            rfl
                          refine pure_ (i := 25) (N := some 69) (v := ?_) (a' := ?_) #[true, true, true, true, true, true, true, true, true, true, true, true, true, true, true, true, true, true, true, true, true, true, true, true, true, true, false, false, false, false, false, false, false, false, false, false] rfl rfl (any_of HT_.out (by kernel_rfl)) (fun _ _ _ h => h) (Or.inl ⟨by rfl, ?_⟩) ?_ ?_
                          rotate_left
                          · intro w'
                            go_simp
                            with_reducible rfl
                          rotate_left
                          · exact AP_
                          refine pure_ (i := 26) (N := some 70) (v := ?_) (a' := ?_) #[true, true, true, true, true, true, true, true, true, true, true, true, true, true, true, true, true, true, true, true, true, true, true, true, true, true, true, false, false, false, false, false, false, false, false, false] rfl rfl (any_of HT_.out (by kernel_rfl)) (fun _ _ _ h => h) (Or.inl ⟨by rfl, ?_⟩) ?_ ?_
                          rotate_left
                          · intro w'
                            go_simp
                            with_reducible rfl
                          rotate_left
                          · exact AP_
                          refine pure_ (i := 27) (N := some 71) (v := ?_) (a' := ?_) #[true, true, true, true, true, true, true, true, true, true, true, true, true, true, true, true, true, true, true, true, true, true, true, true, true, true, true, true, false, false, false, false, false, false, false, false] rfl rfl (any_of HT_.out (by kernel_rfl)) (fun _ _ _ h => h) (Or.inl ⟨by rfl, ?_⟩) ?_ ?_
                          rotate_left
                          · intro w'
                            go_simp
                            with_reducible rfl
                          rotate_left
                          · exact AP_
                          refine take_ (i := 28) (N := some 72) (v := ?_) (a' := ?_) #[true, true, true, true, true, true, true, true, true, true, true, true, true, true, true, true, true, true, true, true, true, true, true, true, true, true, true, true, true, false, false, false, false, false, false, false] rfl rfl (take_ofW HT_.out HW_.out (by kernel_rfl)) (fun _ _ _ h => h) (Or.inl ⟨by rfl, ?_⟩) hHeld ?_ ?_
                          rotate_left
                          · rintro w' ⟨s0, s1, s2, s3⟩
                            go_simp
                            with_reducible rfl
                          rotate_left
                          · exact AP_
                          refine take_ (i := 29) (N := some 73) (v := ?_) (a' := ?_) #[true, true, true, true, true, true, true, true, true, true, true, true, true, true, true, true, true, true, true, true, true, true, true, true, true, true, true, true, true, true, false, false, false, false, false, false] rfl rfl (take_ofW HT_.out HW_.out (by kernel_rfl)) (fun _ _ _ h => h) (Or.inl ⟨by rfl, ?_⟩) hHeld ?_ ?_
                          rotate_left
                          · rintro w' ⟨s0, s1, s2, s3⟩
                            go_simp
                            with_reducible rfl
                          rotate_left
                          · exact AP_
                          refine take_ (i := 31) (N := some 75) (v := ?_) (a' := ?_) #[true, true, true, true, true, true, true, true, true, true, true, true, true, true, true, true, true, true, true, true, true, true, true, true, true, true, true, true, true, true, false, true, false, false, false, false] rfl rfl (take_ofW HT_.out HW_.out (by kernel_rfl)) (fun _ _ _ h => h) (Or.inl ⟨by rfl, ?_⟩) hHeld ?_ ?_
                          rotate_left
                          · rintro w' ⟨s0, s1, s2, s3⟩
                            go_simp
                            with_reducible rfl
                          rotate_left
                          · exact AP_
                          refine take_ (i := 32) (N := some 76) (v := ?_) (a' := ?_) #[true, true, true, true, true, true, true, true, true, true, true, true, true, true, true, true, true, true, true, true, true, true, true, true, true, true, true, true, true, true, false, true, true, false, false, false] rfl rfl (take_ofW HT_.out HW_.out (by kernel_rfl)) (fun _ _ _ h => h) (Or.inl ⟨by rfl, ?_⟩) hHeld ?_ ?_
                          rotate_left
                          · rintro w' ⟨s0, s1, s2, s3⟩
                            go_simp
                            with_reducible rfl
                          rotate_left
                          · exact AP_
                          refine one_ (i := 30) (N := some 74) #[true, true, true, true, true, true, true, true, true, true, true, true, true, true, true, true, true, true, true, true, true, true, true, true, true, true, true, true, true, true, true, true, true, false, false, false] rfl rfl (one_of HT_.out (by kernel_rfl)) (by decide) (fun K hK => ?_)
                          refine goes_ Tryd.func21 (by kernel_rfl) rfl #[.agg #[.int .i64 a0_0, .int .i64 a0_1], .agg #[.int .i64 a1_0, .int .i64 a1_1]] (by rfl) rfl rfl MP_ ?_
                          with_reducible refine (itv_Meet.calls a0_0 a0_1 a1_0 a1_1 t394 t395 _ A28.out).mono ?_
                          rintro e w62 ⟨rfl, hb⟩
                          refine ⟨_, rfl, ?_⟩
                          have n0_ := Aside0.mk (blk_below (g := gb369) (o := .cells #[.int .i64 a0_0, .int .i64 a0_1] 23 (0, 0)) (bk_ BK369.out) hb)
                          have n1_ := Aside0.mk (blk_below (g := gb370) (o := .cells #[.int .i64 a1_0, .int .i64 a1_1] 23 (0, 0)) (bk_ BK370.out) hb)
                          have n2_ := Aside0.mk (below_step HB_ hb)
                          clear BK369
                          clear BK370
                          clear HB
                          have BK369 := n0_
                          have BK370 := n1_
                          have HB := n2_
                          clear n0_ n1_ n2_
                          (try clear hb)
                          (try clear hb2)
                          (try clear hk)
                          (try clear hi)
                          refine hK.out _ _ ⟨(blk_cell BK369.out 0).trans rfl, (blk_cell BK369.out 1).trans rfl, (blk_cell BK370.out 0).trans rfl, (blk_cell BK370.out 1).trans rfl⟩ (fun hHeld => ?_)
                          clear hK K
                          refine norm_ (a' := ?_) ?_ ?_
                          rotate_left
                          · show Act.put _ (some 74) _ = _
                            simp only [Act.put, List.setIfInBounds_toArray, List.set_cons_zero, List.set_cons_succ, i64_w, i32_w]
                            rfl
                          refine one_ (i := 33) (N := some 77) #[true, true, true, true, true, true, true, true, true, true, true, true, true, true, true, true, true, true, true, true, true, true, true, true, true, true, true, true, true, true, true, true, true, true, false, false] rfl rfl (one_of HT_.out (by kernel_rfl)) (by decide) (fun K hK => ?_)
                          refine goes_ Tryd.func22 (by kernel_rfl) rfl #[.agg #[.int .i64 a0_0, .int .i64 a0_1], .agg #[.int .i64 a1_0, .int .i64 a1_1]] (by rfl) rfl rfl MP_ ?_
                          with_reducible refine (warrantorref07_Meet.calls k a0_0 a0_1 a1_0 a1_1 t396 t397 _ A29.out).mono ?_
                          rintro e w63 ⟨rfl, hb⟩
                          refine ⟨_, rfl, ?_⟩
                          have n0_ := Aside0.mk (blk_below (g := gb369) (o := .cells #[.int .i64 a0_0, .int .i64 a0_1] 23 (0, 0)) (bk_ BK369.out) hb)
                          have n1_ := Aside0.mk (blk_below (g := gb370) (o := .cells #[.int .i64 a1_0, .int .i64 a1_1] 23 (0, 0)) (bk_ BK370.out) hb)
                          have n2_ := Aside0.mk (below_step HB_ hb)
                          clear BK369
                          clear BK370
                          clear HB
                          have BK369 := n0_
                          have BK370 := n1_
                          have HB := n2_
                          clear n0_ n1_ n2_
                          (try clear hb)
                          (try clear hb2)
                          (try clear hk)
                          (try clear hi)
                          refine hK.out _ _ ⟨(blk_cell BK369.out 0).trans rfl, (blk_cell BK369.out 1).trans rfl, (blk_cell BK370.out 0).trans rfl, (blk_cell BK370.out 1).trans rfl⟩ (fun hHeld => ?_)
                          clear hK K
                          refine norm_ (a' := ?_) ?_ ?_
                          rotate_left
                          · show Act.put _ (some 77) _ = _
                            simp only [Act.put, List.setIfInBounds_toArray, List.set_cons_zero, List.set_cons_succ, i64_w, i32_w]
                            rfl
                          refine pure_ (i := 34) (N := some 78) (v := ?_) (a' := ?_) #[true, true, true, true, true, true, true, true, true, true, true, true, true, true, true, true, true, true, true, true, true, true, true, true, true, true, true, true, true, true, true, true, true, true, true, false] rfl rfl (any_of HT_.out (by kernel_rfl)) (fun _ _ _ h => h) (Or.inl ⟨by rfl, ?_⟩) ?_ ?_
                          rotate_left
                          · intro w'
                            go_simp
                            with_reducible rfl
                          rotate_left
                          · exact AP_
                          refine pure_ (i := 35) (N := some 79) (v := ?_) (a' := ?_) #[true, true, true, true, true, true, true, true, true, true, true, true, true, true, true, true, true, true, true, true, true, true, true, true, true, true, true, true, true, true, true, true, true, true, true, true] rfl rfl (any_of HT_.out (by kernel_rfl)) (fun _ _ _ h => h) (Or.inl ⟨by rfl, ?_⟩) ?_ ?_
                          rotate_left
                          · intro w'
                            go_simp
                            with_reducible rfl
                          rotate_left
                          · exact AP_
                          refine done_ (done_of HT_.out (by kernel_rfl)) ?_
                          try go_wp2
                          first | (obtain ⟨w63, hq_⟩ : ∃ x, x = w63.drewN nd := ⟨_, rfl⟩; rw [← hq_]; have q0_ := Aside0.mk (blk_drewN BK369.out nd); rw [← hq_] at q0_; have q1_ := Aside0.mk (blk_drewN BK370.out nd); rw [← hq_] at q1_; have q2_ := Aside0.mk (pw_below_drewN HB.out nd); rw [← hq_] at q2_; clear BK369; clear BK370; clear HB; have BK369 := q0_; have BK370 := q1_; have HB := q2_; clear hq_ q0_ q1_ q2_) | skip
                          have n0_ := Aside0.mk (blk_drew BK369.out)
                          have n1_ := Aside0.mk (blk_drew BK370.out)
                          have n2_ := Aside0.mk (below_drew1 HB.out)
                          clear BK369
                          clear BK370
                          clear HB
                          have BK369 := n0_
                          have BK370 := n1_
                          have HB := n2_
                          clear n0_ n1_ n2_
                          refine start_ (n := 33) (S := fun w' => w'.cell? ⟨gb369, 0, none⟩ = some (.int .i64 a0_0) ∧ w'.cell? ⟨gb369, 1, none⟩ = some (.int .i64 a0_1) ∧ w'.cell? ⟨gb370, 0, none⟩ = some (.int .i64 a1_0) ∧ w'.cell? ⟨gb370, 1, none⟩ = some (.int .i64 a1_1)) (ds := []) #[false, false, false, false, false, false, false, false, false, false, false, false, false, false, false, false, false, false, false, false, false, false, false, false, false, false, false, false, false, false, false, false, false] (by kernel_rfl) rfl rfl ⟨(blk_cell BK369.out 0).trans rfl, (blk_cell BK369.out 1).trans rfl, (blk_cell BK370.out 0).trans rfl, (blk_cell BK370.out 1).trans rfl⟩ (fun hHeld => ?_); refine with_tabW warrantorlaw07_ItvTells.tab5 warrantorlaw07_ItvTells.bits5 (fun HT_ HW_ => ?_)
                          generalize w63.drew = w64 at BK369 BK370 HB hHeld ⊢
                          refine pure_ (i := 1) (N := some 81) (v := ?_) (a' := ?_) #[false, true, false, false, false, false, false, false, false, false, false, false, false, false, false, false, false, false, false, false, false, false, false, false, false, false, false, false, false, false, false, false, false] rfl rfl (any_of HT_.out (by kernel_rfl)) (fun _ _ _ h => h) (Or.inl ⟨by rfl, ?_⟩) ?_ ?_
                          rotate_left
                          · intro w'
                            go_simp
                            with_reducible rfl
                          rotate_left
                          · exact AP_
                          refine pure_ (i := 4) (N := some 84) (v := ?_) (a' := ?_) #[false, true, false, false, true, false, false, false, false, false, false, false, false, false, false, false, false, false, false, false, false, false, false, false, false, false, false, false, false, false, false, false, false] rfl rfl (any_of HT_.out (by kernel_rfl)) (fun _ _ _ h => h) (Or.inl ⟨by rfl, ?_⟩) ?_ ?_
                          rotate_left
                          · intro w'
                            go_simp
                            with_reducible rfl
                          rotate_left
                          · exact AP_
                          refine take_ (i := 0) (N := some 80) (v := ?_) (a' := ?_) #[true, true, false, false, true, false, false, false, false, false, false, false, false, false, false, false, false, false, false, false, false, false, false, false, false, false, false, false, false, false, false, false, false] rfl rfl (take_ofW HT_.out HW_.out (by kernel_rfl)) (fun _ _ _ h => h) (Or.inl ⟨by rfl, ?_⟩) hHeld ?_ ?_
                          rotate_left
                          · rintro w' ⟨s0, s1, s2, s3⟩
                            go_simp
                            with_reducible rfl
                          rotate_left
                          · exact AP_
                          refine take_ (i := 3) (N := some 83) (v := ?_) (a' := ?_) #[true, true, false, true, true, false, false, false, false, false, false, false, false, false, false, false, false, false, false, false, false, false, false, false, false, false, false, false, false, false, false, false, false] rfl rfl (take_ofW HT_.out HW_.out (by kernel_rfl)) (fun _ _ _ h => h) (Or.inl ⟨by rfl, ?_⟩) hHeld ?_ ?_
                          rotate_left
                          · rintro w' ⟨s0, s1, s2, s3⟩
                            go_simp
                            with_reducible rfl
                          rotate_left
                          · exact AP_
                          refine one_ (i := 2) (N := some 82) #[true, true, true, true, true, false, false, false, false, false, false, false, false, false, false, false, false, false, false, false, false, false, false, false, false, false, false, false, false, false, false, false, false] rfl rfl (one_of HT_.out (by kernel_rfl)) (by decide) (fun K hK => ?_)
                          refine goes_ Tryd.func23 (by kernel_rfl) rfl #[.agg #[.int .i64 a0_0, .int .i64 a0_1], .int .i64 a2] (by rfl) rfl rfl MP_ ?_
                          with_reducible refine (itv_Move.calls k a0_0 a0_1 a2 t398 t399 _ A31.out).mono ?_
                          rintro e w65 ⟨rfl, hb⟩
                          refine ⟨_, rfl, ?_⟩
                          have n0_ := Aside0.mk (blk_below (g := gb369) (o := .cells #[.int .i64 a0_0, .int .i64 a0_1] 23 (0, 0)) (bk_ BK369.out) hb)
                          have n1_ := Aside0.mk (blk_below (g := gb370) (o := .cells #[.int .i64 a1_0, .int .i64 a1_1] 23 (0, 0)) (bk_ BK370.out) hb)
                          have n2_ := Aside0.mk (below_step HB_ hb)
                          clear BK369
                          clear BK370
                          clear HB
                          have BK369 := n0_
                          have BK370 := n1_
                          have HB := n2_
                          clear n0_ n1_ n2_
                          (try clear hb)
                          (try clear hb2)
                          (try clear hk)
                          (try clear hi)
                          refine hK.out _ _ ⟨(blk_cell BK369.out 0).trans rfl, (blk_cell BK369.out 1).trans rfl, (blk_cell BK370.out 0).trans rfl, (blk_cell BK370.out 1).trans rfl⟩ (fun hHeld => ?_)
                          clear hK K
                          refine norm_ (a' := ?_) ?_ ?_
                          rotate_left
                          · show Act.put _ (some 82) _ = _
                            simp only [Act.put, List.setIfInBounds_toArray, List.set_cons_zero, List.set_cons_succ, i64_w, i32_w]
                            rfl
                          refine one_ (i := 5) (N := some 85) #[true, true, true, true, true, true, false, false, false, false, false, false, false, false, false, false, false, false, false, false, false, false, false, false, false, false, false, false, false, false, false, false, false] rfl rfl (one_of HT_.out (by kernel_rfl)) (by decide) (fun K hK => ?_)
                          refine goes_ Tryd.func24 (by kernel_rfl) rfl #[.agg #[.int .i64 a0_0, .int .i64 a0_1], .int .i64 a2] (by rfl) rfl rfl MP_ ?_
                          with_reducible refine (warrantorref07_Move.calls k a0_0 a0_1 a2 t400 t401 _ A32.out).mono ?_
                          rintro e w66 ⟨rfl, hb⟩
                          refine ⟨_, rfl, ?_⟩
                          have n0_ := Aside0.mk (blk_below (g := gb369) (o := .cells #[.int .i64 a0_0, .int .i64 a0_1] 23 (0, 0)) (bk_ BK369.out) hb)
                          have n1_ := Aside0.mk (blk_below (g := gb370) (o := .cells #[.int .i64 a1_0, .int .i64 a1_1] 23 (0, 0)) (bk_ BK370.out) hb)
                          have n2_ := Aside0.mk (below_step HB_ hb)
                          clear BK369
                          clear BK370
                          clear HB
                          have BK369 := n0_
                          have BK370 := n1_
                          have HB := n2_
                          clear n0_ n1_ n2_
                          (try clear hb)
                          (try clear hb2)
                          (try clear hk)
                          (try clear hi)
                          refine hK.out _ _ ⟨(blk_cell BK369.out 0).trans rfl, (blk_cell BK369.out 1).trans rfl, (blk_cell BK370.out 0).trans rfl, (blk_cell BK370.out 1).trans rfl⟩ (fun hHeld => ?_)
                          clear hK K
                          refine norm_ (a' := ?_) ?_ ?_
                          rotate_left
                          · show Act.put _ (some 85) _ = _
                            simp only [Act.put, List.setIfInBounds_toArray, List.set_cons_zero, List.set_cons_succ, i64_w, i32_w]
                            rfl
                          refine pure_ (i := 6) (N := some 86) (v := ?_) (a' := ?_) #[true, true, true, true, true, true, true, false, false, false, false, false, false, false, false, false, false, false, false, false, false, false, false, false, false, false, false, false, false, false, false, false, false] rfl rfl (any_of HT_.out (by kernel_rfl)) (fun _ _ _ h => h) (Or.inl ⟨by rfl, ?_⟩) ?_ ?_
                          rotate_left
                          · intro w'
                            go_simp
                            with_reducible rfl
                          rotate_left
                          · exact AP_
                          refine pure_ (i := 7) (N := some 87) (v := ?_) (a' := ?_) #[true, true, true, true, true, true, true, true, false, false, false, false, false, false, false, false, false, false, false, false, false, false, false, false, false, false, false, false, false, false, false, false, false] rfl rfl (any_of HT_.out (by kernel_rfl)) (fun _ _ _ h => h) (Or.inl ⟨by rfl, ?_⟩) ?_ ?_
                          rotate_left
                          · intro w'
                            go_simp
                            with_reducible rfl
                          rotate_left
                          · exact AP_
                          refine take_ (i := 8) (N := some 88) (v := ?_) (a' := ?_) #[true, true, true, true, true, true, true, true, true, false, false, false, false, false, false, false, false, false, false, false, false, false, false, false, false, false, false, false, false, false, false, false, false] rfl rfl (take_ofW HT_.out HW_.out (by kernel_rfl)) (fun _ _ _ h => h) (Or.inl ⟨by rfl, ?_⟩) hHeld ?_ ?_
                          rotate_left
                          · rintro w' ⟨s0, s1, s2, s3⟩
                            go_simp
                            with_reducible rfl
                          rotate_left
                          · exact AP_
                          refine take_ (i := 9) (N := some 89) (v := ?_) (a' := ?_) #[true, true, true, true, true, true, true, true, true, true, false, false, false, false, false, false, false, false, false, false, false, false, false, false, false, false, false, false, false, false, false, false, false] rfl rfl (take_ofW HT_.out HW_.out (by kernel_rfl)) (fun _ _ _ h => h) (Or.inl ⟨by rfl, ?_⟩) hHeld ?_ ?_
                          rotate_left
                          · rintro w' ⟨s0, s1, s2, s3⟩
                            go_simp
                            with_reducible rfl
                          rotate_left
                          · exact AP_
                          refine take_ (i := 11) (N := some 91) (v := ?_) (a' := ?_) #[true, true, true, true, true, true, true, true, true, true, false, true, false, false, false, false, false, false, false, false, false, false, false, false, false, false, false, false, false, false, false, false, false] rfl rfl (take_ofW HT_.out HW_.out (by kernel_rfl)) (fun _ _ _ h => h) (Or.inl ⟨by rfl, ?_⟩) hHeld ?_ ?_
                          rotate_left
                          · rintro w' ⟨s0, s1, s2, s3⟩
                            go_simp
                            with_reducible rfl
                          rotate_left
                          · exact AP_
                          refine take_ (i := 12) (N := some 92) (v := ?_) (a' := ?_) #[true, true, true, true, true, true, true, true, true, true, false, true, true, false, false, false, false, false, false, false, false, false, false, false, false, false, false, false, false, false, false, false, false] rfl rfl (take_ofW HT_.out HW_.out (by kernel_rfl)) (fun _ _ _ h => h) (Or.inl ⟨by rfl, ?_⟩) hHeld ?_ ?_
                          rotate_left
                          · rintro w' ⟨s0, s1, s2, s3⟩
                            go_simp
                            with_reducible rfl
                          rotate_left
                          · exact AP_
                          refine one_ (i := 10) (N := some 90) #[true, true, true, true, true, true, true, true, true, true, true, true, true, false, false, false, false, false, false, false, false, false, false, false, false, false, false, false, false, false, false, false, false] rfl rfl (one_of HT_.out (by kernel_rfl)) (by decide) (fun K hK => ?_)
                          refine goes_ Tryd.func25 (by kernel_rfl) rfl #[.agg #[.int .i64 a0_0, .int .i64 a0_1], .agg #[.int .i64 a1_0, .int .i64 a1_1]] (by rfl) rfl rfl MP_ ?_
                          with_reducible refine (itv_Plus.calls a0_0 a0_1 a1_0 a1_1 t402 t403 _ A34.out).mono ?_
                          rintro e w67 ⟨rfl, hb⟩
                          refine ⟨_, rfl, ?_⟩
                          have n0_ := Aside0.mk (blk_below (g := gb369) (o := .cells #[.int .i64 a0_0, .int .i64 a0_1] 23 (0, 0)) (bk_ BK369.out) hb)
                          have n1_ := Aside0.mk (blk_below (g := gb370) (o := .cells #[.int .i64 a1_0, .int .i64 a1_1] 23 (0, 0)) (bk_ BK370.out) hb)
                          have n2_ := Aside0.mk (below_step HB_ hb)
                          clear BK369
                          clear BK370
                          clear HB
                          have BK369 := n0_
                          have BK370 := n1_
                          have HB := n2_
                          clear n0_ n1_ n2_
                          (try clear hb)
                          (try clear hb2)
                          (try clear hk)
                          (try clear hi)
                          refine hK.out _ _ ⟨(blk_cell BK369.out 0).trans rfl, (blk_cell BK369.out 1).trans rfl, (blk_cell BK370.out 0).trans rfl, (blk_cell BK370.out 1).trans rfl⟩ (fun hHeld => ?_)
                          clear hK K
                          refine norm_ (a' := ?_) ?_ ?_
                          rotate_left
                          · show Act.put _ (some 90) _ = _
                            simp only [Act.put, List.setIfInBounds_toArray, List.set_cons_zero, List.set_cons_succ, i64_w, i32_w]
                            rfl
                          refine one_ (i := 13) (N := some 93) #[true, true, true, true, true, true, true, true, true, true, true, true, true, true, false, false, false, false, false, false, false, false, false, false, false, false, false, false, false, false, false, false, false] rfl rfl (one_of HT_.out (by kernel_rfl)) (by decide) (fun K hK => ?_)
                          refine goes_ Tryd.func26 (by kernel_rfl) rfl #[.agg #[.int .i64 a0_0, .int .i64 a0_1], .agg #[.int .i64 a1_0, .int .i64 a1_1]] (by rfl) rfl rfl MP_ ?_
                          with_reducible refine (warrantorref07_Plus.calls k a0_0 a0_1 a1_0 a1_1 t404 t405 _ A35.out).mono ?_
                          rintro e w68 ⟨rfl, hb⟩
                          refine ⟨_, rfl, ?_⟩
                          have n0_ := Aside0.mk (blk_below (g := gb369) (o := .cells #[.int .i64 a0_0, .int .i64 a0_1] 23 (0, 0)) (bk_ BK369.out) hb)
                          have n1_ := Aside0.mk (blk_below (g := gb370) (o := .cells #[.int .i64 a1_0, .int .i64 a1_1] 23 (0, 0)) (bk_ BK370.out) hb)
                          have n2_ := Aside0.mk (below_step HB_ hb)
                          clear BK369
                          clear BK370
                          clear HB
                          have BK369 := n0_
                          have BK370 := n1_
                          have HB := n2_
                          clear n0_ n1_ n2_
                          (try clear hb)
                          (try clear hb2)
                          (try clear hk)
                          (try clear hi)
                          refine hK.out _ _ ⟨(blk_cell BK369.out 0).trans rfl, (blk_cell BK369.out 1).trans rfl, (blk_cell BK370.out 0).trans rfl, (blk_cell BK370.out 1).trans rfl⟩ (fun hHeld => ?_)
                          clear hK K
                          refine norm_ (a' := ?_) ?_ ?_
                          rotate_left
                          · show Act.put _ (some 93) _ = _
                            simp only [Act.put, List.setIfInBounds_toArray, List.set_cons_zero, List.set_cons_succ, i64_w, i32_w]
                            rfl
                          refine pure_ (i := 14) (N := some 94) (v := ?_) (a' := ?_) #[true, true, true, true, true, true, true, true, true, true, true, true, true, true, true, false, false, false, false, false, false, false, false, false, false, false, false, false, false, false, false, false, false] rfl rfl (any_of HT_.out (by kernel_rfl)) (fun _ _ _ h => h) (Or.inl ⟨by rfl, ?_⟩) ?_ ?_
                          rotate_left
                          · intro w'
                            go_simp
                            with_reducible rfl
                          rotate_left
                          · exact AP_
                          refine pure_ (i := 15) (N := some 95) (v := ?_) (a' := ?_) #[true, true, true, true, true, true, true, true, true, true, true, true, true, true, true, true, false, false, false, false, false, false, false, false, false, false, false, false, false, false, false, false, false] rfl rfl (any_of HT_.out (by kernel_rfl)) (fun _ _ _ h => h) (Or.inl ⟨by rfl, ?_⟩) ?_ ?_
                          rotate_left
                          · intro w'
                            go_simp
                            with_reducible rfl
                          rotate_left
                          · exact AP_
                          refine pure_ (i := 16) (N := some 96) (v := ?_) (a' := ?_) #[true, true, true, true, true, true, true, true, true, true, true, true, true, true, true, true, true, false, false, false, false, false, false, false, false, false, false, false, false, false, false, false, false] rfl rfl (any_of HT_.out (by kernel_rfl)) (fun _ _ _ h => h) (Or.inl ⟨by rfl, ?_⟩) ?_ ?_
                          rotate_left
                          · intro w'
                            go_simp
                            with_reducible rfl
                          rotate_left
                          · exact AP_
                          refine take_ (i := 17) (N := some 97) (v := ?_) (a' := ?_) #[true, true, true, true, true, true, true, true, true, true, true, true, true, true, true, true, true, true, false, false, false, false, false, false, false, false, false, false, false, false, false, false, false] rfl rfl (take_ofW HT_.out HW_.out (by kernel_rfl)) (fun _ _ _ h => h) (Or.inl ⟨by rfl, ?_⟩) hHeld ?_ ?_
                          rotate_left
                          · rintro w' ⟨s0, s1, s2, s3⟩
                            go_simp
                            with_reducible rfl
                          rotate_left
                          · exact AP_
                          refine take_ (i := 19) (N := some 99) (v := ?_) (a' := ?_) #[true, true, true, true, true, true, true, true, true, true, true, true, true, true, true, true, true, true, false, true, false, false, false, false, false, false, false, false, false, false, false, false, false] rfl rfl (take_ofW HT_.out HW_.out (by kernel_rfl)) (fun _ _ _ h => h) (Or.inl ⟨by rfl, ?_⟩) hHeld ?_ ?_
                          rotate_left
                          · rintro w' ⟨s0, s1, s2, s3⟩
                            go_simp
                            with_reducible rfl
                          rotate_left
                          · exact AP_
                          refine one_ (i := 18) (N := some 98) #[true, true, true, true, true, true, true, true, true, true, true, true, true, true, true, true, true, true, true, true, false, false, false, false, false, false, false, false, false, false, false, false, false] rfl rfl (one_of HT_.out (by kernel_rfl)) (by decide) (fun K hK => ?_)
                          refine goes_ Tryd.func27 (by kernel_rfl) rfl #[.agg #[.int .i64 a0_0, .int .i64 a0_1]] (by rfl) rfl rfl MP_ ?_
                          with_reducible refine (itv_Neg.calls a0_0 a0_1 t406 t407 _ A37.out).mono ?_
                          rintro e w69 ⟨rfl, hb⟩
                          refine ⟨_, rfl, ?_⟩
                          have n0_ := Aside0.mk (blk_below (g := gb369) (o := .cells #[.int .i64 a0_0, .int .i64 a0_1] 23 (0, 0)) (bk_ BK369.out) hb)
                          have n1_ := Aside0.mk (blk_below (g := gb370) (o := .cells #[.int .i64 a1_0, .int .i64 a1_1] 23 (0, 0)) (bk_ BK370.out) hb)
                          have n2_ := Aside0.mk (below_step HB_ hb)
                          clear BK369
                          clear BK370
                          clear HB
                          have BK369 := n0_
                          have BK370 := n1_
                          have HB := n2_
                          clear n0_ n1_ n2_
                          (try clear hb)
                          (try clear hb2)
                          (try clear hk)
                          (try clear hi)
                          refine hK.out _ _ ⟨(blk_cell BK369.out 0).trans rfl, (blk_cell BK369.out 1).trans rfl, (blk_cell BK370.out 0).trans rfl, (blk_cell BK370.out 1).trans rfl⟩ (fun hHeld => ?_)
                          clear hK K
                          refine norm_ (a' := ?_) ?_ ?_
                          rotate_left
                          · show Act.put _ (some 98) _ = _
                            simp only [Act.put, List.setIfInBounds_toArray, List.set_cons_zero, List.set_cons_succ, i64_w, i32_w]
                            rfl
                          refine one_ (i := 20) (N := some 100) #[true, true, true, true, true, true, true, true, true, true, true, true, true, true, true, true, true, true, true, true, true, false, false, false, false, false, false, false, false, false, false, false, false] rfl rfl (one_of HT_.out (by kernel_rfl)) (by decide) (fun K hK => ?_)
                          refine goes_ Tryd.func28 (by kernel_rfl) rfl #[.agg #[.int .i64 a0_0, .int .i64 a0_1]] (by rfl) rfl rfl MP_ ?_
                          with_reducible refine (warrantorref07_Neg.calls k a0_0 a0_1 t408 t409 _ A38.out).mono ?_
                          rintro e w70 ⟨rfl, hb⟩
                          refine ⟨_, rfl, ?_⟩
                          have n0_ := Aside0.mk (blk_below (g := gb369) (o := .cells #[.int .i64 a0_0, .int .i64 a0_1] 23 (0, 0)) (bk_ BK369.out) hb)
                          have n1_ := Aside0.mk (blk_below (g := gb370) (o := .cells #[.int .i64 a1_0, .int .i64 a1_1] 23 (0, 0)) (bk_ BK370.out) hb)
                          have n2_ := Aside0.mk (below_step HB_ hb)
                          clear BK369
                          clear BK370
                          clear HB
                          have BK369 := n0_
                          have BK370 := n1_
                          have HB := n2_
                          clear n0_ n1_ n2_
                          (try clear hb)
                          (try clear hb2)
                          (try clear hk)
                          (try clear hi)
                          refine hK.out _ _ ⟨(blk_cell BK369.out 0).trans rfl, (blk_cell BK369.out 1).trans rfl, (blk_cell BK370.out 0).trans rfl, (blk_cell BK370.out 1).trans rfl⟩ (fun hHeld => ?_)
                          clear hK K
                          refine norm_ (a' := ?_) ?_ ?_
                          rotate_left
                          · show Act.put _ (some 100) _ = _
                            simp only [Act.put, List.setIfInBounds_toArray, List.set_cons_zero, List.set_cons_succ, i64_w, i32_w]
                            rfl
                          refine pure_ (i := 21) (N := some 101) (v := ?_) (a' := ?_) #[true, true, true, true, true, true, true, true, true, true, true, true, true, true, true, true, true, true, true, true, true, true, false, false, false, false, false, false, false, false, false, false, false] rfl rfl (any_of HT_.out (by kernel_rfl)) (fun _ _ _ h => h) (Or.inl ⟨by rfl, ?_⟩) ?_ ?_
                          rotate_left
                          · intro w'
                            go_simp
                            with_reducible rfl
                          rotate_left
                          · exact AP_
                          refine pure_ (i := 22) (N := some 102) (v := ?_) (a' := ?_) #[true, true, true, true, true, true, true, true, true, true, true, true, true, true, true, true, true, true, true, true, true, true, true, false, false, false, false, false, false, false, false, false, false] rfl rfl (any_of HT_.out (by kernel_rfl)) (fun _ _ _ h => h) (Or.inl ⟨by rfl, ?_⟩) ?_ ?_
                          rotate_left
                          · intro w'
                            go_simp
                            with_reducible rfl
                          rotate_left
                          · exact AP_
                          refine pure_ (i := 23) (N := some 103) (v := ?_) (a' := ?_) #[true, true, true, true, true, true, true, true, true, true, true, true, true, true, true, true, true, true, true, true, true, true, true, true, false, false, false, false, false, false, false, false, false] rfl rfl (any_of HT_.out (by kernel_rfl)) (fun _ _ _ h => h) (Or.inl ⟨by rfl, ?_⟩) ?_ ?_
                          rotate_left
                          · intro w'
                            go_simp
                            with_reducible rfl
                          rotate_left
                          · exact AP_
                          refine take_ (i := 24) (N := some 104) (v := ?_) (a' := ?_) #[true, true, true, true, true, true, true, true, true, true, true, true, true, true, true, true, true, true, true, true, true, true, true, true, true, false, false, false, false, false, false, false, false] rfl rfl (take_ofW HT_.out HW_.out (by kernel_rfl)) (fun _ _ _ h => h) (Or.inl ⟨by rfl, ?_⟩) hHeld ?_ ?_
                          rotate_left
                          · rintro w' ⟨s0, s1, s2, s3⟩
                            go_simp
                            with_reducible rfl
                          rotate_left
                          · exact AP_
                          refine take_ (i := 25) (N := some 105) (v := ?_) (a' := ?_) #[true, true, true, true, true, true, true, true, true, true, true, true, true, true, true, true, true, true, true, true, true, true, true, true, true, true, false, false, false, false, false, false, false] rfl rfl (take_ofW HT_.out HW_.out (by kernel_rfl)) (fun _ _ _ h => h) (Or.inl ⟨by rfl, ?_⟩) hHeld ?_ ?_
                          rotate_left
                          · rintro w' ⟨s0, s1, s2, s3⟩
                            go_simp
                            with_reducible rfl
                          rotate_left
                          · exact AP_
                          refine take_ (i := 27) (N := some 107) (v := ?_) (a' := ?_) #[true, true, true, true, true, true, true, true, true, true, true, true, true, true, true, true, true, true, true, true, true, true, true, true, true, true, false, true, false, false, false, false, false] rfl rfl (take_ofW HT_.out HW_.out (by kernel_rfl)) (fun _ _ _ h => h) (Or.inl ⟨by rfl, ?_⟩) hHeld ?_ ?_
                          rotate_left
                          · rintro w' ⟨s0, s1, s2, s3⟩
                            go_simp
                            with_reducible rfl
                          rotate_left
                          · exact AP_
                          refine take_ (i := 28) (N := some 108) (v := ?_) (a' := ?_) #[true, true, true, true, true, true, true, true, true, true, true, true, true, true, true, true, true, true, true, true, true, true, true, true, true, true, false, true, true, false, false, false, false] rfl rfl (take_ofW HT_.out HW_.out (by kernel_rfl)) (fun _ _ _ h => h) (Or.inl ⟨by rfl, ?_⟩) hHeld ?_ ?_
                          rotate_left
                          · rintro w' ⟨s0, s1, s2, s3⟩
                            go_simp
                            with_reducible rfl
                          rotate_left
                          · exact AP_
                          refine one_ (i := 26) (N := some 106) #[true, true, true, true, true, true, true, true, true, true, true, true, true, true, true, true, true, true, true, true, true, true, true, true, true, true, true, true, true, false, false, false, false] rfl rfl (one_of HT_.out (by kernel_rfl)) (by decide) (fun K hK => ?_)
                          refine goes_ Tryd.func29 (by kernel_rfl) rfl #[.agg #[.int .i64 a0_0, .int .i64 a0_1], .agg #[.int .i64 a1_0, .int .i64 a1_1]] (by rfl) rfl rfl MP_ ?_
                          with_reducible refine (itv_Widen.calls a0_0 a0_1 a1_0 a1_1 t410 t411 _ A40.out).mono ?_
                          rintro e w71 ⟨rfl, hb⟩
                          refine ⟨_, rfl, ?_⟩
                          have n0_ := Aside0.mk (blk_below (g := gb369) (o := .cells #[.int .i64 a0_0, .int .i64 a0_1] 23 (0, 0)) (bk_ BK369.out) hb)
                          have n1_ := Aside0.mk (blk_below (g := gb370) (o := .cells #[.int .i64 a1_0, .int .i64 a1_1] 23 (0, 0)) (bk_ BK370.out) hb)
                          have n2_ := Aside0.mk (below_step HB_ hb)
                          clear BK369
                          clear BK370
                          clear HB
                          have BK369 := n0_
                          have BK370 := n1_
                          have HB := n2_
                          clear n0_ n1_ n2_
                          (try clear hb)
                          (try clear hb2)
                          (try clear hk)
                          (try clear hi)
                          refine hK.out _ _ ⟨(blk_cell BK369.out 0).trans rfl, (blk_cell BK369.out 1).trans rfl, (blk_cell BK370.out 0).trans rfl, (blk_cell BK370.out 1).trans rfl⟩ (fun hHeld => ?_)
                          clear hK K
                          refine norm_ (a' := ?_) ?_ ?_
                          rotate_left
                          · show Act.put _ (some 106) _ = _
                            simp only [Act.put, List.setIfInBounds_toArray, List.set_cons_zero, List.set_cons_succ, i64_w, i32_w]
                            rfl
                          refine one_ (i := 29) (N := some 109) #[true, true, true, true, true, true, true, true, true, true, true, true, true, true, true, true, true, true, true, true, true, true, true, true, true, true, true, true, true, true, false, false, false] rfl rfl (one_of HT_.out (by kernel_rfl)) (by decide) (fun K hK => ?_)
                          refine goes_ Tryd.func30 (by kernel_rfl) rfl #[.agg #[.int .i64 a0_0, .int .i64 a0_1], .agg #[.int .i64 a1_0, .int .i64 a1_1]] (by rfl) rfl rfl MP_ ?_
                          with_reducible refine (warrantorref07_Widen.calls k a0_0 a0_1 a1_0 a1_1 t412 t413 _ A41.out).mono ?_
                          rintro e w72 ⟨rfl, hb⟩
                          refine ⟨_, rfl, ?_⟩
                          have n0_ := Aside0.mk (blk_below (g := gb369) (o := .cells #[.int .i64 a0_0, .int .i64 a0_1] 23 (0, 0)) (bk_ BK369.out) hb)
                          have n1_ := Aside0.mk (blk_below (g := gb370) (o := .cells #[.int .i64 a1_0, .int .i64 a1_1] 23 (0, 0)) (bk_ BK370.out) hb)
                          have n2_ := Aside0.mk (below_step HB_ hb)
                          clear BK369
                          clear BK370
                          clear HB
                          have BK369 := n0_
                          have BK370 := n1_
                          have HB := n2_
                          clear n0_ n1_ n2_
                          (try clear hb)
                          (try clear hb2)
                          (try clear hk)
                          (try clear hi)
                          refine hK.out _ _ ⟨(blk_cell BK369.out 0).trans rfl, (blk_cell BK369.out 1).trans rfl, (blk_cell BK370.out 0).trans rfl, (blk_cell BK370.out 1).trans rfl⟩ (fun hHeld => ?_)
                          clear hK K
                          refine norm_ (a' := ?_) ?_ ?_
                          rotate_left
                          · show Act.put _ (some 109) _ = _
                            simp only [Act.put, List.setIfInBounds_toArray, List.set_cons_zero, List.set_cons_succ, i64_w, i32_w]
                            rfl
                          refine pure_ (i := 30) (N := some 110) (v := ?_) (a' := ?_) #[true, true, true, true, true, true, true, true, true, true, true, true, true, true, true, true, true, true, true, true, true, true, true, true, true, true, true, true, true, true, true, false, false] rfl rfl (any_of HT_.out (by kernel_rfl)) (fun _ _ _ h => h) (Or.inl ⟨by rfl, ?_⟩) ?_ ?_
                          rotate_left
                          · intro w'
                            go_simp
                            with_reducible rfl
                          rotate_left
                          · exact AP_
                          refine pure_ (i := 31) (N := some 111) (v := ?_) (a' := ?_) #[true, true, true, true, true, true, true, true, true, true, true, true, true, true, true, true, true, true, true, true, true, true, true, true, true, true, true, true, true, true, true, true, false] rfl rfl (any_of HT_.out (by kernel_rfl)) (fun _ _ _ h => h) (Or.inl ⟨by rfl, ?_⟩) ?_ ?_
                          rotate_left
                          · intro w'
                            go_simp
                            with_reducible rfl
                          rotate_left
                          · exact AP_
                          refine pure_ (i := 32) (N := some 6) (v := ?_) (a' := ?_) #[true, true, true, true, true, true, true, true, true, true, true, true, true, true, true, true, true, true, true, true, true, true, true, true, true, true, true, true, true, true, true, true, true] rfl rfl (any_of HT_.out (by kernel_rfl)) (fun _ _ _ h => h) (Or.inl ⟨by rfl, ?_⟩) ?_ ?_
                          rotate_left
                          · intro w'
                            go_simp
                            with_reducible rfl
                          rotate_left
                          · exact AP_
                          refine done_ (done_of HT_.out (by kernel_rfl)) ?_
                          try go_wp2
                          go_ret
                          exact ⟨by first | rfl | (simp [errW_none, errW_some] <;> rfl) | (simp [*, errW_none, errW_some] <;> rfl), by repeat (first | (with_reducible first | exact HB.out | apply below_alloc | apply pw_below_drewN | apply below_drew1 | refine below_set ?_ GE369.out | refine below_set ?_ GE370.out) | exact HB.out)⟩
                        · rw [if_neg c39] at H
                          exact absurd H (by simp)
                      · rw [if_neg c36] at H
                        exact absurd H (by simp)
                    · rw [if_neg c33] at H
                      exact absurd H (by simp)
        · rw [if_neg c14] at H
          exact absurd H (by simp)
  · replace c5 := Bool.eq_false_iff.mpr c5
    subst c5
    have H1 : (none) = some r := by rw [if_neg (show ¬ (false = true) by decide)] at H; exact H
    clear H
    have H := H1
    clear H1
    exact absurd H (by simp)

/-- THE ONE PURE STATEMENT of warrantorlaw07_ItvTells: yours. -/
def warrantorlaw07_ItvTells.Pure : Prop := ∀ (a0_0 : Int) (a0_1 : Int) (a1_0 : Int) (a1_1 : Int) (a2 : Int), (Lit.int .i64 a0_0).wf = true → (Lit.int .i64 a0_1).wf = true → (Lit.int .i64 a1_0).wf = true → (Lit.int .i64 a1_1).wf = true → (Lit.int .i64 a2).wf = true → ∃ k, warrantorlaw07_ItvTells.f k a0_0 a0_1 a1_0 a1_1 a2 = some true
theorem warrantorlaw07_ItvTells.walk (P : warrantorlaw07_ItvTells.Pure) (a0_0 : Int) (a0_1 : Int) (a1_0 : Int) (a1_1 : Int) (a2 : Int) (w : World) (htab : TB w) (w0_0 : (Lit.int .i64 a0_0).wf = true) (w0_1 : (Lit.int .i64 a0_1).wf = true) (w1_0 : (Lit.int .i64 a1_0).wf = true) (w1_1 : (Lit.int .i64 a1_1).wf = true) (w2 : (Lit.int .i64 a2).wf = true) :
    Calls Tryd.prog 3 #[.agg #[.int .i64 a0_0, .int .i64 a0_1], .agg #[.int .i64 a1_0, .int .i64 a1_1], .int .i64 a2] w fun e w' => e = .returned (.bool true) ∧ Below w.heap.size w w' := by
  obtain ⟨k, h⟩ := P a0_0 a0_1 a1_0 a1_1 a2 w0_0 w0_1 w1_0 w1_1 w2
  refine (warrantorlaw07_ItvTells.calls k a0_0 a0_1 a1_0 a1_1 a2 true w htab h).mono ?_
  rintro e w' ⟨rfl, hd⟩
  exact ⟨rfl, hd⟩

end Go.Proofs.YtkailfmehmgolaaDoor.R
