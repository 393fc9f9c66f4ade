-- WRITTEN BY this session's program wip/ext.py, in print.py's manner
import Derived.Test.YtkailfmehmgolaaDoorRx0
import Derived.Test.YtkailfmehmgolaaDoorRx1
import Derived.Test.YtkailfmehmgolaaDoorRx3
import Derived.Test.YtkailfmehmgolaaDoorRx4
import Derived.Test.YtkailfmehmgolaaDoorRx5
import Derived.Test.YtkailfmehmgolaaDoorRx6
import Derived.Test.YtkailfmehmgolaaDoorRx7
import Derived.Test.YtkailfmehmgolaaDoorRx8
import Derived.Test.YtkailfmehmgolaaDoorRx13
namespace Go.Proofs.YtkailfmehmgolaaDoor.R
open Go.RowKit Go.Proofs.YtkailfmehmgolaaDoorW.PrintWords Go.Proofs.YtkailfmehmgolaaDoorW.PrintLast Go.Proofs.YtkailfmehmgolaaDoorW.PrintMore
attribute [local go_sem] max2_int min2_int max_two min_two max_three min_three max_four min_four   -- for this text's walks alone
set_option linter.unusedVariables false
set_option linter.unusedSimpArgs false

attribute [local go_sem high] eqA23
/-! ### warrantorlaw07_lives: function 8 -/
def warrantorlaw07_lives.f (k : Nat)  : Option (Bool) := (itv_Of.f 5 1125899906842624).bind fun bt230 => ((itv_Parse.f (⟨#[91, 45, 105, 110, 102, 44, 32, 51, 93]⟩ : ByteArray)).bind fun bt233 => ((itv_Parse.f (⟨#[91, 51, 44, 32, 45, 105, 110, 102, 93]⟩ : ByteArray)).bind fun bt237 => (if (bt230.1 == 5 && (bt230.2 == 1099511627776)) = true then ((itv_Move.f k bt230.1 bt230.2 2).bind fun bt241 => ((itv_Show.f bt241.1 bt241.2).bind fun t243 => (if t243.toList = ([91, 55, 44, 32, 105, 110, 102, 93] : List UInt8) then ((itv_Of.f 0 3).bind fun bt244 => ((itv_Of.f 0 4).bind fun bt246 => ((itv_Widen.f bt244.1 bt244.2 bt246.1 bt246.2).bind fun bt248 => (if (bt248.1 == 0 && (bt248.2 == 1099511627776)) = true then (if bt233.2.2 = 0 then (if (bt233.1 == (-1099511627776) && (bt233.2.1 == 3)) = true then (if bt237.2.2 = 70 then ((itv_None.f).bind fun bt250 => (if (bt250.1 == 1 && (bt250.2 == 0)) = true then ((itv_Of.f 2 4).bind fun bt252 => ((itv_Size.f bt252.1 bt252.2).bind fun t254 => (if t254 = 3 then ((itv_Has.f bt230.1 bt230.2 5).bind fun t255 => (if t255 = true then ((itv_All.f).bind fun bt256 => ((itv_Leq.f bt230.1 bt230.2 bt256.1 bt256.2).bind fun t258 => (if t258 = true then ((itv_Meet.f bt230.1 bt230.2 bt233.1 bt233.2.1).bind fun bt259 => ((itv_None.f).bind fun bt261 => ((itv_Same.f bt259.1 bt259.2 bt261.1 bt261.2).bind fun t263 => (if t263 = true then ((itv_Join.f bt230.1 bt230.2 bt233.1 bt233.2.1).bind fun bt264 => ((itv_All.f).bind fun bt266 => (if (bt264.1 == bt266.1 && (bt264.2 == bt266.2)) = true then ((itv_Of.f 1 2).bind fun bt268 => ((itv_Neg.f bt268.1 bt268.2).bind fun bt270 => (if (bt270.1 == (-2) && (bt270.2 == (-1))) = true then ((itv_Of.f 1 2).bind fun bt272 => ((itv_Of.f 3 5).bind fun bt274 => ((itv_Plus.f bt272.1 bt272.2 bt274.1 bt274.2).bind fun bt276 => (if (bt276.1 == 4 && (bt276.2 == 7)) = true then ((itv_Is.f bt230.1 bt230.2).bind fun t278 => (if t278 = true then ((itv_Is.f 3 0).bind fun t279 => (some (!t279))) else (none))) else (none))))) else (none)))) else (none)))) else (none))))) else (none)))) else (none))) else (none)))) else (none))) else (none)) else (none)) else (none)) else (none))))) else (none)))) else (none))))
theorem warrantorlaw07_lives.mono : ∀ k, LeO (warrantorlaw07_lives.f k ) (warrantorlaw07_lives.f (k + 1) ) := by
  intro  k
  unfold warrantorlaw07_lives.f
  repeat' first
      | (with_reducible exact itv_Move.mono _ _ _ _)
      | (with_reducible exact LeO.refl _)
      | (with_reducible exact LeO.none _)
      | (with_reducible refine LeO.ite ?_ ?_)
      | (with_reducible refine LeO.bind ?_ (fun _ => ?_))
      | exact itv_Move.mono _ _ _ _
      | exact LeO.none _
      | refine LeO.ite ?_ ?_
      | refine LeO.bind ?_ (fun _ => ?_)
def warrantorlaw07_lives.T4 : Bool × List (List Nat × List Nat) := (true, [([], []), ([], []), ([0, 1], [0, 1]), ([2], [2]), ([3], [3]), ([4, 3, 3], [3, 4]), ([5, 5, 3], [3, 5]), ([6, 3], [3, 6]), ([3, 7], [3, 7]), ([8, 6], [8]), ([9, 9], [9]), ([10, 9], [9]), ([10, 11, 11, 9], [9, 10, 11]), ([9], [9]), ([12, 13, 9], [9, 12, 13]), ([9, 14], [9, 14]), ([15, 12], [15]), ([16], [16]), ([17, 16], [16, 17]), ([16, 18], [16, 18]), ([19, 16], [19]), ([20], [20]), ([20], [20]), ([21, 22, 20], [20, 21, 22]), ([20, 23], [20, 23]), ([24, 20], [24]), ([25], [25]), ([26, 25], [25, 26]), ([25, 27], [25, 27]), ([28, 25], [28]), ([29, 29], [29]), ([29], [29]), ([30, 31, 29], [29, 30, 31]), ([29, 32], [29, 32]), ([33, 30], [33]), ([34, 34], [34]), ([35, 35, 34], [34, 35]), ([36, 34], [34, 36]), ([34, 37], [34, 37]), ([38, 36], [38]), ([39], [39]), ([40, 39, 39], [39, 40]), ([39, 41], [39, 41]), ([42, 41], [42]), ([43], [43]), ([43, 43], [43]), ([44, 45, 45, 43], [43, 44, 45]), ([43, 46], [43, 46]), ([47, 46], [47]), ([48], [48]), ([48], [48]), ([49, 50, 48, 48], [48, 49, 50]), ([51, 48], [48]), ([51, 52, 52, 48], [48, 51, 52]), ([48, 53], [48, 53]), ([54, 53], [54]), ([55], [55]), ([55], [55]), ([56, 57, 55, 55], [55, 56, 57]), ([58, 55], [55]), ([58, 59, 55], [55, 58, 59]), ([55, 60], [55, 60]), ([61, 59], [61]), ([62, 62], [62]), ([63, 63, 62], [62, 63]), ([62], [62]), ([64, 65, 62], [62, 64, 65]), ([62, 66], [62, 66]), ([67, 64], [67]), ([68, 68], [68]), ([69, 68], [68]), ([69, 70, 70, 68], [68, 69, 70]), ([68], [68]), ([71, 72, 68], [68, 71, 72]), ([68, 73], [68, 73]), ([74, 71], [74]), ([75], [75]), ([76, 75, 75], [75, 76]), ([75, 77], [75, 77]), ([78, 77], [78]), ([79], [79]), ([80, 79, 79], [79, 80]), ([81, 79], [79, 81]), ([79, 82], [79, 82]), ([83, 81, 0, 1, 2, 3, 4, 5, 6, 7, 8, 9, 10, 11, 12, 13, 14, 15, 16, 17, 18, 19, 20, 21, 22, 23, 24, 25, 26, 27, 28, 29, 30, 31, 32, 33, 34, 35, 36, 37, 38, 39, 40, 41, 42, 43, 44, 45, 46, 47, 48, 49, 50, 51, 52, 53, 54, 55, 56, 57, 58, 59, 60, 61, 62, 63, 64, 65, 66, 67, 68, 69, 70, 71, 72, 73, 74, 75, 76, 77, 78, 79, 80, 81, 82, 83], [83])])
def warrantorlaw07_lives.B4 : List Nat := [0, 0, 3, 7, 15, 31, 63, 127, 255, 511, 1023, 2047, 4095, 1023, 16383, 32767, 65535, 131071, 262143, 524287, 1048575, 2097151, 2097151, 8388607, 16777215, 33554431, 67108863, 134217727, 268435455, 536870911, 1073741823, 1073741823, 4294967295, 8589934591, 17179869183, 34359738367, 68719476735, 137438953471, 274877906943, 549755813887, 1099511627775, 2199023255551, 4398046511103, 8796093022207, 17592186044415, 17592186044415, 70368744177663, 140737488355327, 281474976710655, 562949953421311, 562949953421311, 2251799813685247, 4503599627370495, 9007199254740991, 18014398509481983, 36028797018963967, 72057594037927935, 72057594037927935, 288230376151711743, 576460752303423487, 1152921504606846975, 2305843009213693951, 4611686018427387903, 9223372036854775807, 18446744073709551615, 9223372036854775807, 73786976294838206463, 147573952589676412927, 295147905179352825855, 590295810358705651711, 1180591620717411303423, 2361183241434822606847, 590295810358705651711, 9444732965739290427391, 18889465931478580854783, 37778931862957161709567, 75557863725914323419135, 151115727451828646838271, 302231454903657293676543, 604462909807314587353087, 1208925819614629174706175, 2417851639229258349412351, 4835703278458516698824703, 9671406556917033397649407, 19342813113834066795298815]
theorem warrantorlaw07_lives.tab4 : rtab .any (opsOf Tryd.f8 4) = warrantorlaw07_lives.T4 := by kernel_rfl
theorem warrantorlaw07_lives.bits4 : waitsOk warrantorlaw07_lives.T4.2 warrantorlaw07_lives.B4 = true := by kernel_rfl
set_option maxHeartbeats 8000000 in
set_option maxRecDepth 100000 in
theorem warrantorlaw07_lives.calls (k : Nat)  (r : Bool) (w : World) (htab : TB w) (h : warrantorlaw07_lives.f k  = some r) :
    Calls Tryd.prog 8 #[] w fun e w' => e = .returned (.bool r) ∧ Below w.heap.size w w' := by
  have HTB := Aside0.mk htab
  clear htab
  have hu23 := Tryd.underlying23
  have HB := Aside0.mk (Below.refl w.heap.size w)
  have H : ((itv_Of.f 5 1125899906842624).bind fun bt230 => ((itv_Parse.f (⟨#[91, 45, 105, 110, 102, 44, 32, 51, 93]⟩ : ByteArray)).bind fun bt233 => ((itv_Parse.f (⟨#[91, 51, 44, 32, 45, 105, 110, 102, 93]⟩ : ByteArray)).bind fun bt237 => (if (bt230.1 == 5 && (bt230.2 == 1099511627776)) = true then ((itv_Move.f k bt230.1 bt230.2 2).bind fun bt241 => ((itv_Show.f bt241.1 bt241.2).bind fun t243 => (if t243.toList = ([91, 55, 44, 32, 105, 110, 102, 93] : List UInt8) then ((itv_Of.f 0 3).bind fun bt244 => ((itv_Of.f 0 4).bind fun bt246 => ((itv_Widen.f bt244.1 bt244.2 bt246.1 bt246.2).bind fun bt248 => (if (bt248.1 == 0 && (bt248.2 == 1099511627776)) = true then (if bt233.2.2 = 0 then (if (bt233.1 == (-1099511627776) && (bt233.2.1 == 3)) = true then (if bt237.2.2 = 70 then ((itv_None.f).bind fun bt250 => (if (bt250.1 == 1 && (bt250.2 == 0)) = true then ((itv_Of.f 2 4).bind fun bt252 => ((itv_Size.f bt252.1 bt252.2).bind fun t254 => (if t254 = 3 then ((itv_Has.f bt230.1 bt230.2 5).bind fun t255 => (if t255 = true then ((itv_All.f).bind fun bt256 => ((itv_Leq.f bt230.1 bt230.2 bt256.1 bt256.2).bind fun t258 => (if t258 = true then ((itv_Meet.f bt230.1 bt230.2 bt233.1 bt233.2.1).bind fun bt259 => ((itv_None.f).bind fun bt261 => ((itv_Same.f bt259.1 bt259.2 bt261.1 bt261.2).bind fun t263 => (if t263 = true then ((itv_Join.f bt230.1 bt230.2 bt233.1 bt233.2.1).bind fun bt264 => ((itv_All.f).bind fun bt266 => (if (bt264.1 == bt266.1 && (bt264.2 == bt266.2)) = true then ((itv_Of.f 1 2).bind fun bt268 => ((itv_Neg.f bt268.1 bt268.2).bind fun bt270 => (if (bt270.1 == (-2) && (bt270.2 == (-1))) = true then ((itv_Of.f 1 2).bind fun bt272 => ((itv_Of.f 3 5).bind fun bt274 => ((itv_Plus.f bt272.1 bt272.2 bt274.1 bt274.2).bind fun bt276 => (if (bt276.1 == 4 && (bt276.2 == 7)) = true then ((itv_Is.f bt230.1 bt230.2).bind fun t278 => (if t278 = true then ((itv_Is.f 3 0).bind fun t279 => (some (!t279))) else (none))) else (none))))) else (none)))) else (none)))) else (none))))) else (none)))) else (none))) else (none)))) else (none))) else (none)) else (none)) else (none)) else (none))))) else (none)))) else (none))))) = some r := h
  clear h
  replace H := Option.bind_eq_some_iff.mp H
  obtain ⟨⟨t230, t231⟩, A10, H⟩ := H
  replace H : ((itv_Parse.f (⟨#[91, 45, 105, 110, 102, 44, 32, 51, 93]⟩ : ByteArray)).bind fun bt233 => ((itv_Parse.f (⟨#[91, 51, 44, 32, 45, 105, 110, 102, 93]⟩ : ByteArray)).bind fun bt237 => (if (t230 == 5 && (t231 == 1099511627776)) = true then ((itv_Move.f k t230 t231 2).bind fun bt241 => ((itv_Show.f bt241.1 bt241.2).bind fun t243 => (if t243.toList = ([91, 55, 44, 32, 105, 110, 102, 93] : List UInt8) then ((itv_Of.f 0 3).bind fun bt244 => ((itv_Of.f 0 4).bind fun bt246 => ((itv_Widen.f bt244.1 bt244.2 bt246.1 bt246.2).bind fun bt248 => (if (bt248.1 == 0 && (bt248.2 == 1099511627776)) = true then (if bt233.2.2 = 0 then (if (bt233.1 == (-1099511627776) && (bt233.2.1 == 3)) = true then (if bt237.2.2 = 70 then ((itv_None.f).bind fun bt250 => (if (bt250.1 == 1 && (bt250.2 == 0)) = true then ((itv_Of.f 2 4).bind fun bt252 => ((itv_Size.f bt252.1 bt252.2).bind fun t254 => (if t254 = 3 then ((itv_Has.f t230 t231 5).bind fun t255 => (if t255 = true then ((itv_All.f).bind fun bt256 => ((itv_Leq.f t230 t231 bt256.1 bt256.2).bind fun t258 => (if t258 = true then ((itv_Meet.f t230 t231 bt233.1 bt233.2.1).bind fun bt259 => ((itv_None.f).bind fun bt261 => ((itv_Same.f bt259.1 bt259.2 bt261.1 bt261.2).bind fun t263 => (if t263 = true then ((itv_Join.f t230 t231 bt233.1 bt233.2.1).bind fun bt264 => ((itv_All.f).bind fun bt266 => (if (bt264.1 == bt266.1 && (bt264.2 == bt266.2)) = true then ((itv_Of.f 1 2).bind fun bt268 => ((itv_Neg.f bt268.1 bt268.2).bind fun bt270 => (if (bt270.1 == (-2) && (bt270.2 == (-1))) = true then ((itv_Of.f 1 2).bind fun bt272 => ((itv_Of.f 3 5).bind fun bt274 => ((itv_Plus.f bt272.1 bt272.2 bt274.1 bt274.2).bind fun bt276 => (if (bt276.1 == 4 && (bt276.2 == 7)) = true then ((itv_Is.f t230 t231).bind fun t278 => (if t278 = true then ((itv_Is.f 3 0).bind fun t279 => (some (!t279))) else (none))) else (none))))) else (none)))) else (none)))) else (none))))) else (none)))) else (none))) else (none)))) else (none))) else (none)) else (none)) else (none)) else (none))))) else (none)))) else (none)))) = some r := H
  have A1 := Aside0.mk A10
  clear A10
  replace H := Option.bind_eq_some_iff.mp H
  obtain ⟨⟨t233, t234, t235⟩, A20, H⟩ := H
  replace H : ((itv_Parse.f (⟨#[91, 51, 44, 32, 45, 105, 110, 102, 93]⟩ : ByteArray)).bind fun bt237 => (if (t230 == 5 && (t231 == 1099511627776)) = true then ((itv_Move.f k t230 t231 2).bind fun bt241 => ((itv_Show.f bt241.1 bt241.2).bind fun t243 => (if t243.toList = ([91, 55, 44, 32, 105, 110, 102, 93] : List UInt8) then ((itv_Of.f 0 3).bind fun bt244 => ((itv_Of.f 0 4).bind fun bt246 => ((itv_Widen.f bt244.1 bt244.2 bt246.1 bt246.2).bind fun bt248 => (if (bt248.1 == 0 && (bt248.2 == 1099511627776)) = true then (if t235 = 0 then (if (t233 == (-1099511627776) && (t234 == 3)) = true then (if bt237.2.2 = 70 then ((itv_None.f).bind fun bt250 => (if (bt250.1 == 1 && (bt250.2 == 0)) = true then ((itv_Of.f 2 4).bind fun bt252 => ((itv_Size.f bt252.1 bt252.2).bind fun t254 => (if t254 = 3 then ((itv_Has.f t230 t231 5).bind fun t255 => (if t255 = true then ((itv_All.f).bind fun bt256 => ((itv_Leq.f t230 t231 bt256.1 bt256.2).bind fun t258 => (if t258 = true then ((itv_Meet.f t230 t231 t233 t234).bind fun bt259 => ((itv_None.f).bind fun bt261 => ((itv_Same.f bt259.1 bt259.2 bt261.1 bt261.2).bind fun t263 => (if t263 = true then ((itv_Join.f t230 t231 t233 t234).bind fun bt264 => ((itv_All.f).bind fun bt266 => (if (bt264.1 == bt266.1 && (bt264.2 == bt266.2)) = true then ((itv_Of.f 1 2).bind fun bt268 => ((itv_Neg.f bt268.1 bt268.2).bind fun bt270 => (if (bt270.1 == (-2) && (bt270.2 == (-1))) = true then ((itv_Of.f 1 2).bind fun bt272 => ((itv_Of.f 3 5).bind fun bt274 => ((itv_Plus.f bt272.1 bt272.2 bt274.1 bt274.2).bind fun bt276 => (if (bt276.1 == 4 && (bt276.2 == 7)) = true then ((itv_Is.f t230 t231).bind fun t278 => (if t278 = true then ((itv_Is.f 3 0).bind fun t279 => (some (!t279))) else (none))) else (none))))) else (none)))) else (none)))) else (none))))) else (none)))) else (none))) else (none)))) else (none))) else (none)) else (none)) else (none)) else (none))))) else (none)))) else (none))) = some r := H
  have A2 := Aside0.mk A20
  clear A20
  replace H := Option.bind_eq_some_iff.mp H
  obtain ⟨⟨t237, t238, t239⟩, A30, H⟩ := H
  replace H : (if (t230 == 5 && (t231 == 1099511627776)) = true then ((itv_Move.f k t230 t231 2).bind fun bt241 => ((itv_Show.f bt241.1 bt241.2).bind fun t243 => (if t243.toList = ([91, 55, 44, 32, 105, 110, 102, 93] : List UInt8) then ((itv_Of.f 0 3).bind fun bt244 => ((itv_Of.f 0 4).bind fun bt246 => ((itv_Widen.f bt244.1 bt244.2 bt246.1 bt246.2).bind fun bt248 => (if (bt248.1 == 0 && (bt248.2 == 1099511627776)) = true then (if t235 = 0 then (if (t233 == (-1099511627776) && (t234 == 3)) = true then (if t239 = 70 then ((itv_None.f).bind fun bt250 => (if (bt250.1 == 1 && (bt250.2 == 0)) = true then ((itv_Of.f 2 4).bind fun bt252 => ((itv_Size.f bt252.1 bt252.2).bind fun t254 => (if t254 = 3 then ((itv_Has.f t230 t231 5).bind fun t255 => (if t255 = true then ((itv_All.f).bind fun bt256 => ((itv_Leq.f t230 t231 bt256.1 bt256.2).bind fun t258 => (if t258 = true then ((itv_Meet.f t230 t231 t233 t234).bind fun bt259 => ((itv_None.f).bind fun bt261 => ((itv_Same.f bt259.1 bt259.2 bt261.1 bt261.2).bind fun t263 => (if t263 = true then ((itv_Join.f t230 t231 t233 t234).bind fun bt264 => ((itv_All.f).bind fun bt266 => (if (bt264.1 == bt266.1 && (bt264.2 == bt266.2)) = true then ((itv_Of.f 1 2).bind fun bt268 => ((itv_Neg.f bt268.1 bt268.2).bind fun bt270 => (if (bt270.1 == (-2) && (bt270.2 == (-1))) = true then ((itv_Of.f 1 2).bind fun bt272 => ((itv_Of.f 3 5).bind fun bt274 => ((itv_Plus.f bt272.1 bt272.2 bt274.1 bt274.2).bind fun bt276 => (if (bt276.1 == 4 && (bt276.2 == 7)) = true then ((itv_Is.f t230 t231).bind fun t278 => (if t278 = true then ((itv_Is.f 3 0).bind fun t279 => (some (!t279))) else (none))) else (none))))) else (none)))) else (none)))) else (none))))) else (none)))) else (none))) else (none)))) else (none))) else (none)) else (none)) else (none)) else (none))))) else (none)))) else (none)) = some r := H
  have A3 := Aside0.mk A30
  clear A30
  by_cases c4 : (t230 == 5 && (t231 == 1099511627776)) = true
  · rw [if_pos c4] at H
    have c4b0 : (t230 == 5 && (t231 == 1099511627776)) = true := c4
    (try (have c4b1 : decide (t230 = 5 && (t231 == 1099511627776)) = true := by simpa using c4))
    (try (have c4b2 : (t230 == 5 && (t231 == 1099511627776)) = true := by simpa using c4))
    clear c4
    replace H := Option.bind_eq_some_iff.mp H
    obtain ⟨⟨t241, t242⟩, A50, H⟩ := H
    replace H : ((itv_Show.f t241 t242).bind fun t243 => (if t243.toList = ([91, 55, 44, 32, 105, 110, 102, 93] : List UInt8) then ((itv_Of.f 0 3).bind fun bt244 => ((itv_Of.f 0 4).bind fun bt246 => ((itv_Widen.f bt244.1 bt244.2 bt246.1 bt246.2).bind fun bt248 => (if (bt248.1 == 0 && (bt248.2 == 1099511627776)) = true then (if t235 = 0 then (if (t233 == (-1099511627776) && (t234 == 3)) = true then (if t239 = 70 then ((itv_None.f).bind fun bt250 => (if (bt250.1 == 1 && (bt250.2 == 0)) = true then ((itv_Of.f 2 4).bind fun bt252 => ((itv_Size.f bt252.1 bt252.2).bind fun t254 => (if t254 = 3 then ((itv_Has.f t230 t231 5).bind fun t255 => (if t255 = true then ((itv_All.f).bind fun bt256 => ((itv_Leq.f t230 t231 bt256.1 bt256.2).bind fun t258 => (if t258 = true then ((itv_Meet.f t230 t231 t233 t234).bind fun bt259 => ((itv_None.f).bind fun bt261 => ((itv_Same.f bt259.1 bt259.2 bt261.1 bt261.2).bind fun t263 => (if t263 = true then ((itv_Join.f t230 t231 t233 t234).bind fun bt264 => ((itv_All.f).bind fun bt266 => (if (bt264.1 == bt266.1 && (bt264.2 == bt266.2)) = true then ((itv_Of.f 1 2).bind fun bt268 => ((itv_Neg.f bt268.1 bt268.2).bind fun bt270 => (if (bt270.1 == (-2) && (bt270.2 == (-1))) = true then ((itv_Of.f 1 2).bind fun bt272 => ((itv_Of.f 3 5).bind fun bt274 => ((itv_Plus.f bt272.1 bt272.2 bt274.1 bt274.2).bind fun bt276 => (if (bt276.1 == 4 && (bt276.2 == 7)) = true then ((itv_Is.f t230 t231).bind fun t278 => (if t278 = true then ((itv_Is.f 3 0).bind fun t279 => (some (!t279))) else (none))) else (none))))) else (none)))) else (none)))) else (none))))) else (none)))) else (none))) else (none)))) else (none))) else (none)) else (none)) else (none)) else (none))))) else (none))) = some r := H
    have A5 := Aside0.mk A50
    clear A50
    replace H := Option.bind_eq_some_iff.mp H
    obtain ⟨t243, A60, H⟩ := H
    replace H : (if t243.toList = ([91, 55, 44, 32, 105, 110, 102, 93] : List UInt8) then ((itv_Of.f 0 3).bind fun bt244 => ((itv_Of.f 0 4).bind fun bt246 => ((itv_Widen.f bt244.1 bt244.2 bt246.1 bt246.2).bind fun bt248 => (if (bt248.1 == 0 && (bt248.2 == 1099511627776)) = true then (if t235 = 0 then (if (t233 == (-1099511627776) && (t234 == 3)) = true then (if t239 = 70 then ((itv_None.f).bind fun bt250 => (if (bt250.1 == 1 && (bt250.2 == 0)) = true then ((itv_Of.f 2 4).bind fun bt252 => ((itv_Size.f bt252.1 bt252.2).bind fun t254 => (if t254 = 3 then ((itv_Has.f t230 t231 5).bind fun t255 => (if t255 = true then ((itv_All.f).bind fun bt256 => ((itv_Leq.f t230 t231 bt256.1 bt256.2).bind fun t258 => (if t258 = true then ((itv_Meet.f t230 t231 t233 t234).bind fun bt259 => ((itv_None.f).bind fun bt261 => ((itv_Same.f bt259.1 bt259.2 bt261.1 bt261.2).bind fun t263 => (if t263 = true then ((itv_Join.f t230 t231 t233 t234).bind fun bt264 => ((itv_All.f).bind fun bt266 => (if (bt264.1 == bt266.1 && (bt264.2 == bt266.2)) = true then ((itv_Of.f 1 2).bind fun bt268 => ((itv_Neg.f bt268.1 bt268.2).bind fun bt270 => (if (bt270.1 == (-2) && (bt270.2 == (-1))) = true then ((itv_Of.f 1 2).bind fun bt272 => ((itv_Of.f 3 5).bind fun bt274 => ((itv_Plus.f bt272.1 bt272.2 bt274.1 bt274.2).bind fun bt276 => (if (bt276.1 == 4 && (bt276.2 == 7)) = true then ((itv_Is.f t230 t231).bind fun t278 => (if t278 = true then ((itv_Is.f 3 0).bind fun t279 => (some (!t279))) else (none))) else (none))))) else (none)))) else (none)))) else (none))))) else (none)))) else (none))) else (none)))) else (none))) else (none)) else (none)) else (none)) else (none))))) else (none)) = some r := H
    have A6 := Aside0.mk A60
    clear A60
    by_cases c7 : t243.toList = ([91, 55, 44, 32, 105, 110, 102, 93] : List UInt8)
    · rw [if_pos c7] at H
      have c7b0 : (t243.toList == ([91, 55, 44, 32, 105, 110, 102, 93] : List UInt8)) = true := beq_iff_eq.mpr c7
      have c7b1 : (t243.toList != ([91, 55, 44, 32, 105, 110, 102, 93] : List UInt8)) = false := bne_eq_false_iff_eq.mpr c7
      clear c7
      replace H := Option.bind_eq_some_iff.mp H
      obtain ⟨⟨t244, t245⟩, A80, H⟩ := H
      replace H : ((itv_Of.f 0 4).bind fun bt246 => ((itv_Widen.f t244 t245 bt246.1 bt246.2).bind fun bt248 => (if (bt248.1 == 0 && (bt248.2 == 1099511627776)) = true then (if t235 = 0 then (if (t233 == (-1099511627776) && (t234 == 3)) = true then (if t239 = 70 then ((itv_None.f).bind fun bt250 => (if (bt250.1 == 1 && (bt250.2 == 0)) = true then ((itv_Of.f 2 4).bind fun bt252 => ((itv_Size.f bt252.1 bt252.2).bind fun t254 => (if t254 = 3 then ((itv_Has.f t230 t231 5).bind fun t255 => (if t255 = true then ((itv_All.f).bind fun bt256 => ((itv_Leq.f t230 t231 bt256.1 bt256.2).bind fun t258 => (if t258 = true then ((itv_Meet.f t230 t231 t233 t234).bind fun bt259 => ((itv_None.f).bind fun bt261 => ((itv_Same.f bt259.1 bt259.2 bt261.1 bt261.2).bind fun t263 => (if t263 = true then ((itv_Join.f t230 t231 t233 t234).bind fun bt264 => ((itv_All.f).bind fun bt266 => (if (bt264.1 == bt266.1 && (bt264.2 == bt266.2)) = true then ((itv_Of.f 1 2).bind fun bt268 => ((itv_Neg.f bt268.1 bt268.2).bind fun bt270 => (if (bt270.1 == (-2) && (bt270.2 == (-1))) = true then ((itv_Of.f 1 2).bind fun bt272 => ((itv_Of.f 3 5).bind fun bt274 => ((itv_Plus.f bt272.1 bt272.2 bt274.1 bt274.2).bind fun bt276 => (if (bt276.1 == 4 && (bt276.2 == 7)) = true then ((itv_Is.f t230 t231).bind fun t278 => (if t278 = true then ((itv_Is.f 3 0).bind fun t279 => (some (!t279))) else (none))) else (none))))) else (none)))) else (none)))) else (none))))) else (none)))) else (none))) else (none)))) else (none))) else (none)) else (none)) else (none)) else (none)))) = some r := H
      have A8 := Aside0.mk A80
      clear A80
      replace H := Option.bind_eq_some_iff.mp H
      obtain ⟨⟨t246, t247⟩, A90, H⟩ := H
      replace H : ((itv_Widen.f t244 t245 t246 t247).bind fun bt248 => (if (bt248.1 == 0 && (bt248.2 == 1099511627776)) = true then (if t235 = 0 then (if (t233 == (-1099511627776) && (t234 == 3)) = true then (if t239 = 70 then ((itv_None.f).bind fun bt250 => (if (bt250.1 == 1 && (bt250.2 == 0)) = true then ((itv_Of.f 2 4).bind fun bt252 => ((itv_Size.f bt252.1 bt252.2).bind fun t254 => (if t254 = 3 then ((itv_Has.f t230 t231 5).bind fun t255 => (if t255 = true then ((itv_All.f).bind fun bt256 => ((itv_Leq.f t230 t231 bt256.1 bt256.2).bind fun t258 => (if t258 = true then ((itv_Meet.f t230 t231 t233 t234).bind fun bt259 => ((itv_None.f).bind fun bt261 => ((itv_Same.f bt259.1 bt259.2 bt261.1 bt261.2).bind fun t263 => (if t263 = true then ((itv_Join.f t230 t231 t233 t234).bind fun bt264 => ((itv_All.f).bind fun bt266 => (if (bt264.1 == bt266.1 && (bt264.2 == bt266.2)) = true then ((itv_Of.f 1 2).bind fun bt268 => ((itv_Neg.f bt268.1 bt268.2).bind fun bt270 => (if (bt270.1 == (-2) && (bt270.2 == (-1))) = true then ((itv_Of.f 1 2).bind fun bt272 => ((itv_Of.f 3 5).bind fun bt274 => ((itv_Plus.f bt272.1 bt272.2 bt274.1 bt274.2).bind fun bt276 => (if (bt276.1 == 4 && (bt276.2 == 7)) = true then ((itv_Is.f t230 t231).bind fun t278 => (if t278 = true then ((itv_Is.f 3 0).bind fun t279 => (some (!t279))) else (none))) else (none))))) else (none)))) else (none)))) else (none))))) else (none)))) else (none))) else (none)))) else (none))) else (none)) else (none)) else (none)) else (none))) = some r := H
      have A9 := Aside0.mk A90
      clear A90
      replace H := Option.bind_eq_some_iff.mp H
      obtain ⟨⟨t248, t249⟩, A100, H⟩ := H
      replace H : (if (t248 == 0 && (t249 == 1099511627776)) = true then (if t235 = 0 then (if (t233 == (-1099511627776) && (t234 == 3)) = true then (if t239 = 70 then ((itv_None.f).bind fun bt250 => (if (bt250.1 == 1 && (bt250.2 == 0)) = true then ((itv_Of.f 2 4).bind fun bt252 => ((itv_Size.f bt252.1 bt252.2).bind fun t254 => (if t254 = 3 then ((itv_Has.f t230 t231 5).bind fun t255 => (if t255 = true then ((itv_All.f).bind fun bt256 => ((itv_Leq.f t230 t231 bt256.1 bt256.2).bind fun t258 => (if t258 = true then ((itv_Meet.f t230 t231 t233 t234).bind fun bt259 => ((itv_None.f).bind fun bt261 => ((itv_Same.f bt259.1 bt259.2 bt261.1 bt261.2).bind fun t263 => (if t263 = true then ((itv_Join.f t230 t231 t233 t234).bind fun bt264 => ((itv_All.f).bind fun bt266 => (if (bt264.1 == bt266.1 && (bt264.2 == bt266.2)) = true then ((itv_Of.f 1 2).bind fun bt268 => ((itv_Neg.f bt268.1 bt268.2).bind fun bt270 => (if (bt270.1 == (-2) && (bt270.2 == (-1))) = true then ((itv_Of.f 1 2).bind fun bt272 => ((itv_Of.f 3 5).bind fun bt274 => ((itv_Plus.f bt272.1 bt272.2 bt274.1 bt274.2).bind fun bt276 => (if (bt276.1 == 4 && (bt276.2 == 7)) = true then ((itv_Is.f t230 t231).bind fun t278 => (if t278 = true then ((itv_Is.f 3 0).bind fun t279 => (some (!t279))) else (none))) else (none))))) else (none)))) else (none)))) else (none))))) else (none)))) else (none))) else (none)))) else (none))) else (none)) else (none)) else (none)) else (none)) = some r := H
      have A10 := Aside0.mk A100
      clear A100
      by_cases c11 : (t248 == 0 && (t249 == 1099511627776)) = true
      · rw [if_pos c11] at H
        have c11b0 : (t248 == 0 && (t249 == 1099511627776)) = true := c11
        (try (have c11b1 : decide (t248 = 0 && (t249 == 1099511627776)) = true := by simpa using c11))
        (try (have c11b2 : (t248 == 0 && (t249 == 1099511627776)) = true := by simpa using c11))
        clear c11
        by_cases c12 : t235 = 0
        · rw [if_pos c12] at H
          have c12b0 : (t235 == 0) = true := beq_iff_eq.mpr c12
          have c12b1 : (t235 != 0) = false := bne_eq_false_iff_eq.mpr c12
          clear c12
          by_cases c13 : (t233 == (-1099511627776) && (t234 == 3)) = true
          · rw [if_pos c13] at H
            have c13b0 : (t233 == (-1099511627776) && (t234 == 3)) = true := c13
            (try (have c13b1 : decide (t233 = (-1099511627776) && (t234 == 3)) = true := by simpa using c13))
            (try (have c13b2 : (t233 == (-1099511627776) && (t234 == 3)) = true := by simpa using c13))
            clear c13
            by_cases c14 : t239 = 70
            · rw [if_pos c14] at H
              have c14b0 : (t239 == 70) = true := beq_iff_eq.mpr c14
              have c14b1 : (t239 != 70) = false := bne_eq_false_iff_eq.mpr c14
              clear c14
              replace H := Option.bind_eq_some_iff.mp H
              obtain ⟨⟨t250, t251⟩, A150, H⟩ := H
              replace H : (if (t250 == 1 && (t251 == 0)) = true then ((itv_Of.f 2 4).bind fun bt252 => ((itv_Size.f bt252.1 bt252.2).bind fun t254 => (if t254 = 3 then ((itv_Has.f t230 t231 5).bind fun t255 => (if t255 = true then ((itv_All.f).bind fun bt256 => ((itv_Leq.f t230 t231 bt256.1 bt256.2).bind fun t258 => (if t258 = true then ((itv_Meet.f t230 t231 t233 t234).bind fun bt259 => ((itv_None.f).bind fun bt261 => ((itv_Same.f bt259.1 bt259.2 bt261.1 bt261.2).bind fun t263 => (if t263 = true then ((itv_Join.f t230 t231 t233 t234).bind fun bt264 => ((itv_All.f).bind fun bt266 => (if (bt264.1 == bt266.1 && (bt264.2 == bt266.2)) = true then ((itv_Of.f 1 2).bind fun bt268 => ((itv_Neg.f bt268.1 bt268.2).bind fun bt270 => (if (bt270.1 == (-2) && (bt270.2 == (-1))) = true then ((itv_Of.f 1 2).bind fun bt272 => ((itv_Of.f 3 5).bind fun bt274 => ((itv_Plus.f bt272.1 bt272.2 bt274.1 bt274.2).bind fun bt276 => (if (bt276.1 == 4 && (bt276.2 == 7)) = true then ((itv_Is.f t230 t231).bind fun t278 => (if t278 = true then ((itv_Is.f 3 0).bind fun t279 => (some (!t279))) else (none))) else (none))))) else (none)))) else (none)))) else (none))))) else (none)))) else (none))) else (none)))) else (none)) = some r := H
              have A15 := Aside0.mk A150
              clear A150
              by_cases c16 : (t250 == 1 && (t251 == 0)) = true
              · rw [if_pos c16] at H
                have c16b0 : (t250 == 1 && (t251 == 0)) = true := c16
                (try (have c16b1 : decide (t250 = 1 && (t251 == 0)) = true := by simpa using c16))
                (try (have c16b2 : (t250 == 1 && (t251 == 0)) = true := by simpa using c16))
                clear c16
                replace H := Option.bind_eq_some_iff.mp H
                obtain ⟨⟨t252, t253⟩, A170, H⟩ := H
                replace H : ((itv_Size.f t252 t253).bind fun t254 => (if t254 = 3 then ((itv_Has.f t230 t231 5).bind fun t255 => (if t255 = true then ((itv_All.f).bind fun bt256 => ((itv_Leq.f t230 t231 bt256.1 bt256.2).bind fun t258 => (if t258 = true then ((itv_Meet.f t230 t231 t233 t234).bind fun bt259 => ((itv_None.f).bind fun bt261 => ((itv_Same.f bt259.1 bt259.2 bt261.1 bt261.2).bind fun t263 => (if t263 = true then ((itv_Join.f t230 t231 t233 t234).bind fun bt264 => ((itv_All.f).bind fun bt266 => (if (bt264.1 == bt266.1 && (bt264.2 == bt266.2)) = true then ((itv_Of.f 1 2).bind fun bt268 => ((itv_Neg.f bt268.1 bt268.2).bind fun bt270 => (if (bt270.1 == (-2) && (bt270.2 == (-1))) = true then ((itv_Of.f 1 2).bind fun bt272 => ((itv_Of.f 3 5).bind fun bt274 => ((itv_Plus.f bt272.1 bt272.2 bt274.1 bt274.2).bind fun bt276 => (if (bt276.1 == 4 && (bt276.2 == 7)) = true then ((itv_Is.f t230 t231).bind fun t278 => (if t278 = true then ((itv_Is.f 3 0).bind fun t279 => (some (!t279))) else (none))) else (none))))) else (none)))) else (none)))) else (none))))) else (none)))) else (none))) else (none))) = some r := H
                have A17 := Aside0.mk A170
                clear A170
                replace H := Option.bind_eq_some_iff.mp H
                obtain ⟨t254, A180, H⟩ := H
                replace H : (if t254 = 3 then ((itv_Has.f t230 t231 5).bind fun t255 => (if t255 = true then ((itv_All.f).bind fun bt256 => ((itv_Leq.f t230 t231 bt256.1 bt256.2).bind fun t258 => (if t258 = true then ((itv_Meet.f t230 t231 t233 t234).bind fun bt259 => ((itv_None.f).bind fun bt261 => ((itv_Same.f bt259.1 bt259.2 bt261.1 bt261.2).bind fun t263 => (if t263 = true then ((itv_Join.f t230 t231 t233 t234).bind fun bt264 => ((itv_All.f).bind fun bt266 => (if (bt264.1 == bt266.1 && (bt264.2 == bt266.2)) = true then ((itv_Of.f 1 2).bind fun bt268 => ((itv_Neg.f bt268.1 bt268.2).bind fun bt270 => (if (bt270.1 == (-2) && (bt270.2 == (-1))) = true then ((itv_Of.f 1 2).bind fun bt272 => ((itv_Of.f 3 5).bind fun bt274 => ((itv_Plus.f bt272.1 bt272.2 bt274.1 bt274.2).bind fun bt276 => (if (bt276.1 == 4 && (bt276.2 == 7)) = true then ((itv_Is.f t230 t231).bind fun t278 => (if t278 = true then ((itv_Is.f 3 0).bind fun t279 => (some (!t279))) else (none))) else (none))))) else (none)))) else (none)))) else (none))))) else (none)))) else (none))) else (none)) = some r := H
                have A18 := Aside0.mk A180
                clear A180
                by_cases c19 : t254 = 3
                · rw [if_pos c19] at H
                  have c19b0 : (t254 == 3) = true := beq_iff_eq.mpr c19
                  have c19b1 : (t254 != 3) = false := bne_eq_false_iff_eq.mpr c19
                  clear c19
                  replace H := Option.bind_eq_some_iff.mp H
                  obtain ⟨t255, A200, H⟩ := H
                  replace H : (if t255 = true then ((itv_All.f).bind fun bt256 => ((itv_Leq.f t230 t231 bt256.1 bt256.2).bind fun t258 => (if t258 = true then ((itv_Meet.f t230 t231 t233 t234).bind fun bt259 => ((itv_None.f).bind fun bt261 => ((itv_Same.f bt259.1 bt259.2 bt261.1 bt261.2).bind fun t263 => (if t263 = true then ((itv_Join.f t230 t231 t233 t234).bind fun bt264 => ((itv_All.f).bind fun bt266 => (if (bt264.1 == bt266.1 && (bt264.2 == bt266.2)) = true then ((itv_Of.f 1 2).bind fun bt268 => ((itv_Neg.f bt268.1 bt268.2).bind fun bt270 => (if (bt270.1 == (-2) && (bt270.2 == (-1))) = true then ((itv_Of.f 1 2).bind fun bt272 => ((itv_Of.f 3 5).bind fun bt274 => ((itv_Plus.f bt272.1 bt272.2 bt274.1 bt274.2).bind fun bt276 => (if (bt276.1 == 4 && (bt276.2 == 7)) = true then ((itv_Is.f t230 t231).bind fun t278 => (if t278 = true then ((itv_Is.f 3 0).bind fun t279 => (some (!t279))) else (none))) else (none))))) else (none)))) else (none)))) else (none))))) else (none)))) else (none)) = some r := H
                  have A20 := Aside0.mk A200
                  clear A200
                  by_cases c21 : t255 = true
                  · subst c21
                    have H1 : ((itv_All.f).bind fun bt256 => ((itv_Leq.f t230 t231 bt256.1 bt256.2).bind fun t258 => (if t258 = true then ((itv_Meet.f t230 t231 t233 t234).bind fun bt259 => ((itv_None.f).bind fun bt261 => ((itv_Same.f bt259.1 bt259.2 bt261.1 bt261.2).bind fun t263 => (if t263 = true then ((itv_Join.f t230 t231 t233 t234).bind fun bt264 => ((itv_All.f).bind fun bt266 => (if (bt264.1 == bt266.1 && (bt264.2 == bt266.2)) = true then ((itv_Of.f 1 2).bind fun bt268 => ((itv_Neg.f bt268.1 bt268.2).bind fun bt270 => (if (bt270.1 == (-2) && (bt270.2 == (-1))) = true then ((itv_Of.f 1 2).bind fun bt272 => ((itv_Of.f 3 5).bind fun bt274 => ((itv_Plus.f bt272.1 bt272.2 bt274.1 bt274.2).bind fun bt276 => (if (bt276.1 == 4 && (bt276.2 == 7)) = true then ((itv_Is.f t230 t231).bind fun t278 => (if t278 = true then ((itv_Is.f 3 0).bind fun t279 => (some (!t279))) else (none))) else (none))))) else (none)))) else (none)))) else (none))))) else (none)))) = some r := by rw [if_pos rfl] at H; exact H
                    clear H
                    have H := H1
                    clear H1
                    replace H := Option.bind_eq_some_iff.mp H
                    obtain ⟨⟨t256, t257⟩, A220, H⟩ := H
                    replace H : ((itv_Leq.f t230 t231 t256 t257).bind fun t258 => (if t258 = true then ((itv_Meet.f t230 t231 t233 t234).bind fun bt259 => ((itv_None.f).bind fun bt261 => ((itv_Same.f bt259.1 bt259.2 bt261.1 bt261.2).bind fun t263 => (if t263 = true then ((itv_Join.f t230 t231 t233 t234).bind fun bt264 => ((itv_All.f).bind fun bt266 => (if (bt264.1 == bt266.1 && (bt264.2 == bt266.2)) = true then ((itv_Of.f 1 2).bind fun bt268 => ((itv_Neg.f bt268.1 bt268.2).bind fun bt270 => (if (bt270.1 == (-2) && (bt270.2 == (-1))) = true then ((itv_Of.f 1 2).bind fun bt272 => ((itv_Of.f 3 5).bind fun bt274 => ((itv_Plus.f bt272.1 bt272.2 bt274.1 bt274.2).bind fun bt276 => (if (bt276.1 == 4 && (bt276.2 == 7)) = true then ((itv_Is.f t230 t231).bind fun t278 => (if t278 = true then ((itv_Is.f 3 0).bind fun t279 => (some (!t279))) else (none))) else (none))))) else (none)))) else (none)))) else (none))))) else (none))) = some r := H
                    have A22 := Aside0.mk A220
                    clear A220
                    replace H := Option.bind_eq_some_iff.mp H
                    obtain ⟨t258, A230, H⟩ := H
                    replace H : (if t258 = true then ((itv_Meet.f t230 t231 t233 t234).bind fun bt259 => ((itv_None.f).bind fun bt261 => ((itv_Same.f bt259.1 bt259.2 bt261.1 bt261.2).bind fun t263 => (if t263 = true then ((itv_Join.f t230 t231 t233 t234).bind fun bt264 => ((itv_All.f).bind fun bt266 => (if (bt264.1 == bt266.1 && (bt264.2 == bt266.2)) = true then ((itv_Of.f 1 2).bind fun bt268 => ((itv_Neg.f bt268.1 bt268.2).bind fun bt270 => (if (bt270.1 == (-2) && (bt270.2 == (-1))) = true then ((itv_Of.f 1 2).bind fun bt272 => ((itv_Of.f 3 5).bind fun bt274 => ((itv_Plus.f bt272.1 bt272.2 bt274.1 bt274.2).bind fun bt276 => (if (bt276.1 == 4 && (bt276.2 == 7)) = true then ((itv_Is.f t230 t231).bind fun t278 => (if t278 = true then ((itv_Is.f 3 0).bind fun t279 => (some (!t279))) else (none))) else (none))))) else (none)))) else (none)))) else (none))))) else (none)) = some r := H
                    have A23 := Aside0.mk A230
                    clear A230
                    by_cases c24 : t258 = true
                    · subst c24
                      have H1 : ((itv_Meet.f t230 t231 t233 t234).bind fun bt259 => ((itv_None.f).bind fun bt261 => ((itv_Same.f bt259.1 bt259.2 bt261.1 bt261.2).bind fun t263 => (if t263 = true then ((itv_Join.f t230 t231 t233 t234).bind fun bt264 => ((itv_All.f).bind fun bt266 => (if (bt264.1 == bt266.1 && (bt264.2 == bt266.2)) = true then ((itv_Of.f 1 2).bind fun bt268 => ((itv_Neg.f bt268.1 bt268.2).bind fun bt270 => (if (bt270.1 == (-2) && (bt270.2 == (-1))) = true then ((itv_Of.f 1 2).bind fun bt272 => ((itv_Of.f 3 5).bind fun bt274 => ((itv_Plus.f bt272.1 bt272.2 bt274.1 bt274.2).bind fun bt276 => (if (bt276.1 == 4 && (bt276.2 == 7)) = true then ((itv_Is.f t230 t231).bind fun t278 => (if t278 = true then ((itv_Is.f 3 0).bind fun t279 => (some (!t279))) else (none))) else (none))))) else (none)))) else (none)))) else (none))))) = some r := by rw [if_pos rfl] at H; exact H
                      clear H
                      have H := H1
                      clear H1
                      replace H := Option.bind_eq_some_iff.mp H
                      obtain ⟨⟨t259, t260⟩, A250, H⟩ := H
                      replace H : ((itv_None.f).bind fun bt261 => ((itv_Same.f t259 t260 bt261.1 bt261.2).bind fun t263 => (if t263 = true then ((itv_Join.f t230 t231 t233 t234).bind fun bt264 => ((itv_All.f).bind fun bt266 => (if (bt264.1 == bt266.1 && (bt264.2 == bt266.2)) = true then ((itv_Of.f 1 2).bind fun bt268 => ((itv_Neg.f bt268.1 bt268.2).bind fun bt270 => (if (bt270.1 == (-2) && (bt270.2 == (-1))) = true then ((itv_Of.f 1 2).bind fun bt272 => ((itv_Of.f 3 5).bind fun bt274 => ((itv_Plus.f bt272.1 bt272.2 bt274.1 bt274.2).bind fun bt276 => (if (bt276.1 == 4 && (bt276.2 == 7)) = true then ((itv_Is.f t230 t231).bind fun t278 => (if t278 = true then ((itv_Is.f 3 0).bind fun t279 => (some (!t279))) else (none))) else (none))))) else (none)))) else (none)))) else (none)))) = some r := H
                      have A25 := Aside0.mk A250
                      clear A250
                      replace H := Option.bind_eq_some_iff.mp H
                      obtain ⟨⟨t261, t262⟩, A260, H⟩ := H
                      replace H : ((itv_Same.f t259 t260 t261 t262).bind fun t263 => (if t263 = true then ((itv_Join.f t230 t231 t233 t234).bind fun bt264 => ((itv_All.f).bind fun bt266 => (if (bt264.1 == bt266.1 && (bt264.2 == bt266.2)) = true then ((itv_Of.f 1 2).bind fun bt268 => ((itv_Neg.f bt268.1 bt268.2).bind fun bt270 => (if (bt270.1 == (-2) && (bt270.2 == (-1))) = true then ((itv_Of.f 1 2).bind fun bt272 => ((itv_Of.f 3 5).bind fun bt274 => ((itv_Plus.f bt272.1 bt272.2 bt274.1 bt274.2).bind fun bt276 => (if (bt276.1 == 4 && (bt276.2 == 7)) = true then ((itv_Is.f t230 t231).bind fun t278 => (if t278 = true then ((itv_Is.f 3 0).bind fun t279 => (some (!t279))) else (none))) else (none))))) else (none)))) else (none)))) else (none))) = some r := H
                      have A26 := Aside0.mk A260
                      clear A260
                      replace H := Option.bind_eq_some_iff.mp H
                      obtain ⟨t263, A270, H⟩ := H
                      replace H : (if t263 = true then ((itv_Join.f t230 t231 t233 t234).bind fun bt264 => ((itv_All.f).bind fun bt266 => (if (bt264.1 == bt266.1 && (bt264.2 == bt266.2)) = true then ((itv_Of.f 1 2).bind fun bt268 => ((itv_Neg.f bt268.1 bt268.2).bind fun bt270 => (if (bt270.1 == (-2) && (bt270.2 == (-1))) = true then ((itv_Of.f 1 2).bind fun bt272 => ((itv_Of.f 3 5).bind fun bt274 => ((itv_Plus.f bt272.1 bt272.2 bt274.1 bt274.2).bind fun bt276 => (if (bt276.1 == 4 && (bt276.2 == 7)) = true then ((itv_Is.f t230 t231).bind fun t278 => (if t278 = true then ((itv_Is.f 3 0).bind fun t279 => (some (!t279))) else (none))) else (none))))) else (none)))) else (none)))) else (none)) = some r := H
                      have A27 := Aside0.mk A270
                      clear A270
                      by_cases c28 : t263 = true
                      · subst c28
                        have H1 : ((itv_Join.f t230 t231 t233 t234).bind fun bt264 => ((itv_All.f).bind fun bt266 => (if (bt264.1 == bt266.1 && (bt264.2 == bt266.2)) = true then ((itv_Of.f 1 2).bind fun bt268 => ((itv_Neg.f bt268.1 bt268.2).bind fun bt270 => (if (bt270.1 == (-2) && (bt270.2 == (-1))) = true then ((itv_Of.f 1 2).bind fun bt272 => ((itv_Of.f 3 5).bind fun bt274 => ((itv_Plus.f bt272.1 bt272.2 bt274.1 bt274.2).bind fun bt276 => (if (bt276.1 == 4 && (bt276.2 == 7)) = true then ((itv_Is.f t230 t231).bind fun t278 => (if t278 = true then ((itv_Is.f 3 0).bind fun t279 => (some (!t279))) else (none))) else (none))))) else (none)))) else (none)))) = some r := by rw [if_pos rfl] at H; exact H
                        clear H
                        have H := H1
                        clear H1
                        replace H := Option.bind_eq_some_iff.mp H
                        obtain ⟨⟨t264, t265⟩, A290, H⟩ := H
                        replace H : ((itv_All.f).bind fun bt266 => (if (t264 == bt266.1 && (t265 == bt266.2)) = true then ((itv_Of.f 1 2).bind fun bt268 => ((itv_Neg.f bt268.1 bt268.2).bind fun bt270 => (if (bt270.1 == (-2) && (bt270.2 == (-1))) = true then ((itv_Of.f 1 2).bind fun bt272 => ((itv_Of.f 3 5).bind fun bt274 => ((itv_Plus.f bt272.1 bt272.2 bt274.1 bt274.2).bind fun bt276 => (if (bt276.1 == 4 && (bt276.2 == 7)) = true then ((itv_Is.f t230 t231).bind fun t278 => (if t278 = true then ((itv_Is.f 3 0).bind fun t279 => (some (!t279))) else (none))) else (none))))) else (none)))) else (none))) = some r := H
                        have A29 := Aside0.mk A290
                        clear A290
                        replace H := Option.bind_eq_some_iff.mp H
                        obtain ⟨⟨t266, t267⟩, A300, H⟩ := H
                        replace H : (if (t264 == t266 && (t265 == t267)) = true then ((itv_Of.f 1 2).bind fun bt268 => ((itv_Neg.f bt268.1 bt268.2).bind fun bt270 => (if (bt270.1 == (-2) && (bt270.2 == (-1))) = true then ((itv_Of.f 1 2).bind fun bt272 => ((itv_Of.f 3 5).bind fun bt274 => ((itv_Plus.f bt272.1 bt272.2 bt274.1 bt274.2).bind fun bt276 => (if (bt276.1 == 4 && (bt276.2 == 7)) = true then ((itv_Is.f t230 t231).bind fun t278 => (if t278 = true then ((itv_Is.f 3 0).bind fun t279 => (some (!t279))) else (none))) else (none))))) else (none)))) else (none)) = some r := H
                        have A30 := Aside0.mk A300
                        clear A300
                        by_cases c31 : (t264 == t266 && (t265 == t267)) = true
                        · rw [if_pos c31] at H
                          have c31b0 : (t264 == t266 && (t265 == t267)) = true := c31
                          (try (have c31b1 : decide (t264 = t266 && (t265 == t267)) = true := by simpa using c31))
                          (try (have c31b2 : (t264 == t266 && (t265 == t267)) = true := by simpa using c31))
                          clear c31
                          replace H := Option.bind_eq_some_iff.mp H
                          obtain ⟨⟨t268, t269⟩, A320, H⟩ := H
                          replace H : ((itv_Neg.f t268 t269).bind fun bt270 => (if (bt270.1 == (-2) && (bt270.2 == (-1))) = true then ((itv_Of.f 1 2).bind fun bt272 => ((itv_Of.f 3 5).bind fun bt274 => ((itv_Plus.f bt272.1 bt272.2 bt274.1 bt274.2).bind fun bt276 => (if (bt276.1 == 4 && (bt276.2 == 7)) = true then ((itv_Is.f t230 t231).bind fun t278 => (if t278 = true then ((itv_Is.f 3 0).bind fun t279 => (some (!t279))) else (none))) else (none))))) else (none))) = some r := H
                          have A32 := Aside0.mk A320
                          clear A320
                          replace H := Option.bind_eq_some_iff.mp H
                          obtain ⟨⟨t270, t271⟩, A330, H⟩ := H
                          replace H : (if (t270 == (-2) && (t271 == (-1))) = true then ((itv_Of.f 1 2).bind fun bt272 => ((itv_Of.f 3 5).bind fun bt274 => ((itv_Plus.f bt272.1 bt272.2 bt274.1 bt274.2).bind fun bt276 => (if (bt276.1 == 4 && (bt276.2 == 7)) = true then ((itv_Is.f t230 t231).bind fun t278 => (if t278 = true then ((itv_Is.f 3 0).bind fun t279 => (some (!t279))) else (none))) else (none))))) else (none)) = some r := H
                          have A33 := Aside0.mk A330
                          clear A330
                          by_cases c34 : (t270 == (-2) && (t271 == (-1))) = true
                          · rw [if_pos c34] at H
                            have c34b0 : (t270 == (-2) && (t271 == (-1))) = true := c34
                            (try (have c34b1 : decide (t270 = (-2) && (t271 == (-1))) = true := by simpa using c34))
                            (try (have c34b2 : (t270 == (-2) && (t271 == (-1))) = true := by simpa using c34))
                            clear c34
                            replace H := Option.bind_eq_some_iff.mp H
                            obtain ⟨⟨t272, t273⟩, A350, H⟩ := H
                            replace H : ((itv_Of.f 3 5).bind fun bt274 => ((itv_Plus.f t272 t273 bt274.1 bt274.2).bind fun bt276 => (if (bt276.1 == 4 && (bt276.2 == 7)) = true then ((itv_Is.f t230 t231).bind fun t278 => (if t278 = true then ((itv_Is.f 3 0).bind fun t279 => (some (!t279))) else (none))) else (none)))) = some r := H
                            have A35 := Aside0.mk A350
                            clear A350
                            replace H := Option.bind_eq_some_iff.mp H
                            obtain ⟨⟨t274, t275⟩, A360, H⟩ := H
                            replace H : ((itv_Plus.f t272 t273 t274 t275).bind fun bt276 => (if (bt276.1 == 4 && (bt276.2 == 7)) = true then ((itv_Is.f t230 t231).bind fun t278 => (if t278 = true then ((itv_Is.f 3 0).bind fun t279 => (some (!t279))) else (none))) else (none))) = some r := H
                            have A36 := Aside0.mk A360
                            clear A360
                            replace H := Option.bind_eq_some_iff.mp H
                            obtain ⟨⟨t276, t277⟩, A370, H⟩ := H
                            replace H : (if (t276 == 4 && (t277 == 7)) = true then ((itv_Is.f t230 t231).bind fun t278 => (if t278 = true then ((itv_Is.f 3 0).bind fun t279 => (some (!t279))) else (none))) else (none)) = some r := H
                            have A37 := Aside0.mk A370
                            clear A370
                            by_cases c38 : (t276 == 4 && (t277 == 7)) = true
                            · rw [if_pos c38] at H
                              have c38b0 : (t276 == 4 && (t277 == 7)) = true := c38
                              (try (have c38b1 : decide (t276 = 4 && (t277 == 7)) = true := by simpa using c38))
                              (try (have c38b2 : (t276 == 4 && (t277 == 7)) = true := by simpa using c38))
                              clear c38
                              replace H := Option.bind_eq_some_iff.mp H
                              obtain ⟨t278, A390, H⟩ := H
                              replace H : (if t278 = true then ((itv_Is.f 3 0).bind fun t279 => (some (!t279))) else (none)) = some r := H
                              have A39 := Aside0.mk A390
                              clear A390
                              by_cases c40 : t278 = true
                              · subst c40
                                have H1 : ((itv_Is.f 3 0).bind fun t279 => (some (!t279))) = some r := by rw [if_pos rfl] at H; exact H
                                clear H
                                have H := H1
                                clear H1
                                replace H := Option.bind_eq_some_iff.mp H
                                obtain ⟨t279, A410, H⟩ := H
                                replace H : (some (!t279)) = some r := H
                                have A41 := Aside0.mk A410
                                clear A410
                                obtain rfl := Option.some.inj H
                                go_enter Tryd.func8, Tryd.ntmps8
                                try go_wp2_with (first | ((with_reducible refine gate_callee (f := 9) rfl ?_); refine goesL_ (some 6) rfl rfl Tryd.func9 (by kernel_rfl) rfl #[.int .i64 5, .int .i64 1125899906842624] rfl MP_ ?_; (with_reducible refine (itv_Of.calls 5 1125899906842624 t230 t231 _ A1.out).mono ?_); rintro e w42 ⟨rfl, hb⟩; refine ⟨_, rfl, ?_⟩; have n0_ := Aside0.mk (below_step HB_ hb); clear HB; have HB := n0_; clear n0_; (try clear hb); (try clear hb2); (try clear hk); (try clear hi)) | ((with_reducible refine gate_dst (N := 1) rfl ?_); refine box_event ?hg (N := 1) ?hd (cs := #[.int .i64 0, .int .i64 0]) (t := 23) ?hr ?_; (case hd => rfl); (case hg => rfl); (case hr => first | (go_simp; done) | (go_simp; rfl)); intro gb232 hg w43 hbox hb; have n0_ := Aside0.mk (below_step HB_ hb); have n1_ := Aside0.mk (hbox); have n2_ := Aside0.mk ((by rw [hg]; exact (below_size HB_) : w.heap.size ≤ gb232)); have n3_ := Aside0.mk ((by rw [hg]; exact (below_size HB_) : w.heap.size ≤ gb232)); clear HB; have HB := n0_; have BK232 := n1_; have GW232 := n2_; have GE232 := n3_; clear n0_ n1_ n2_ n3_; clear hb hbox hg; have hcz44_0 : w43.cell? ⟨gb232, 0, none⟩ = some (.int .i64 0) := (blk_cell BK232.out 0).trans rfl; have hcz44_1 : w43.cell? ⟨gb232, 1, none⟩ = some (.int .i64 0) := (blk_cell BK232.out 1).trans rfl; have hfz44_0 := blk_frozen BK232.out 0; have hfz44_1 := blk_frozen BK232.out 1) | ((with_reducible refine gate_callee (f := 35) rfl ?_); refine goesL_ (some 8) rfl rfl Tryd.func35 (by kernel_rfl) rfl #[.string (⟨#[91, 45, 105, 110, 102, 44, 32, 51, 93]⟩ : ByteArray)] rfl MP_ ?_; (with_reducible refine (itv_Parse.calls (⟨#[91, 45, 105, 110, 102, 44, 32, 51, 93]⟩ : ByteArray) t233 t234 t235 _ (tb_below HTB.out HB_) A2.out).mono ?_); rintro e w45 ⟨rfl, hb⟩; refine ⟨_, rfl, ?_⟩; have n0_ := Aside0.mk (blk_below (g := gb232) (o := .cells #[.int .i64 t230, .int .i64 t231] 23 (0, 0)) (bk2_ BK232.out) hb); have n1_ := Aside0.mk (below_step HB_ hb); clear BK232; clear HB; have BK232 := n0_; have HB := n1_; clear n0_ n1_; (try clear hb); (try clear hb2); (try clear hk); (try clear hi)) | ((with_reducible refine gate_dst (N := 2) rfl ?_); refine box_event ?hg (N := 2) ?hd (cs := #[.int .i64 0, .int .i64 0]) (t := 23) ?hr ?_; (case hd => rfl); (case hg => rfl); (case hr => first | (go_simp; done) | (go_simp; rfl)); intro gb236 hg w46 hbox hb; have n0_ := Aside0.mk (blk_below (g := gb232) (o := .cells #[.int .i64 t230, .int .i64 t231] 23 (0, 0)) (bk_ BK232.out) hb); have n1_ := Aside0.mk (below_step HB_ hb); have n2_ := Aside0.mk (hbox); have n3_ := Aside0.mk ((by rw [hg]; exact (below_size HB_) : w.heap.size ≤ gb236)); have n4_ := Aside0.mk ((by rw [hg]; exact (below_size HB_) : w.heap.size ≤ gb236)); have n5_ := Aside0.mk ((by rw [hg]; exact Nat.ne_of_lt (blk_lt (g := gb232) (o := .cells #[.int .i64 t230, .int .i64 t231] 23 (0, 0)) (bk_ BK232.out)) : gb232 ≠ gb236)); have n6_ := Aside0.mk ((by rw [hg]; exact Nat.ne_of_gt (blk_lt (g := gb232) (o := .cells #[.int .i64 t230, .int .i64 t231] 23 (0, 0)) (bk_ BK232.out)) : gb236 ≠ gb232)); clear BK232; clear HB; have BK232 := n0_; have HB := n1_; have BK236 := n2_; have GW236 := n3_; have GE236 := n4_; have NB232_236 := n5_; have NB236_232 := n6_; clear n0_ n1_ n2_ n3_ n4_ n5_ n6_; clear hb hbox hg; have hnb47 := NB236_232.out; have hnc47 := NB232_236.out; have hcz48_0 : w46.cell? ⟨gb236, 0, none⟩ = some (.int .i64 0) := (blk_cell BK236.out 0).trans rfl; have hcz48_1 : w46.cell? ⟨gb236, 1, none⟩ = some (.int .i64 0) := (blk_cell BK236.out 1).trans rfl; have hfz48_0 := blk_frozen BK236.out 0; have hfz48_1 := blk_frozen BK236.out 1) | ((with_reducible refine gate_callee (f := 35) rfl ?_); refine goesL_ (some 12) rfl rfl Tryd.func35 (by kernel_rfl) rfl #[.string (⟨#[91, 51, 44, 32, 45, 105, 110, 102, 93]⟩ : ByteArray)] rfl MP_ ?_; (with_reducible refine (itv_Parse.calls (⟨#[91, 51, 44, 32, 45, 105, 110, 102, 93]⟩ : ByteArray) t237 t238 t239 _ (tb_below HTB.out HB_) A3.out).mono ?_); rintro e w49 ⟨rfl, hb⟩; refine ⟨_, rfl, ?_⟩; have n0_ := Aside0.mk (blk_below (g := gb232) (o := .cells #[.int .i64 t230, .int .i64 t231] 23 (0, 0)) (bk2_ BK232.out) hb); have n1_ := Aside0.mk (blk_below (g := gb236) (o := .cells #[.int .i64 t233, .int .i64 t234] 23 (0, 0)) (bk2_ BK236.out) hb); have n2_ := Aside0.mk (below_step HB_ hb); clear BK232; clear BK236; clear HB; have BK232 := n0_; have BK236 := n1_; have HB := n2_; clear n0_ n1_ n2_; (try clear hb); (try clear hb2); (try clear hk); (try clear hi)) | ((with_reducible refine gate_dst (N := 4) rfl ?_); refine box_event ?hg (N := 4) ?hd (cs := #[.int .i64 0, .int .i64 0]) (t := 23) ?hr ?_; (case hd => rfl); (case hg => rfl); (case hr => first | (go_simp; done) | (go_simp; rfl)); intro gb240 hg w50 hbox hb; have n0_ := Aside0.mk (blk_below (g := gb232) (o := .cells #[.int .i64 t230, .int .i64 t231] 23 (0, 0)) (bk_ BK232.out) hb); have n1_ := Aside0.mk (blk_below (g := gb236) (o := .cells #[.int .i64 t233, .int .i64 t234] 23 (0, 0)) (bk_ BK236.out) hb); have n2_ := Aside0.mk (below_step HB_ hb); have n3_ := Aside0.mk (hbox); have n4_ := Aside0.mk ((by rw [hg]; exact (below_size HB_) : w.heap.size ≤ gb240)); have n5_ := Aside0.mk ((by rw [hg]; exact (below_size HB_) : w.heap.size ≤ gb240)); have n6_ := Aside0.mk ((by rw [hg]; exact Nat.ne_of_lt (blk_lt (g := gb232) (o := .cells #[.int .i64 t230, .int .i64 t231] 23 (0, 0)) (bk_ BK232.out)) : gb232 ≠ gb240)); have n7_ := Aside0.mk ((by rw [hg]; exact Nat.ne_of_gt (blk_lt (g := gb232) (o := .cells #[.int .i64 t230, .int .i64 t231] 23 (0, 0)) (bk_ BK232.out)) : gb240 ≠ gb232)); have n8_ := Aside0.mk ((by rw [hg]; exact Nat.ne_of_lt (blk_lt (g := gb236) (o := .cells #[.int .i64 t233, .int .i64 t234] 23 (0, 0)) (bk_ BK236.out)) : gb236 ≠ gb240)); have n9_ := Aside0.mk ((by rw [hg]; exact Nat.ne_of_gt (blk_lt (g := gb236) (o := .cells #[.int .i64 t233, .int .i64 t234] 23 (0, 0)) (bk_ BK236.out)) : gb240 ≠ gb236)); clear BK232; clear BK236; clear HB; have BK232 := n0_; have BK236 := n1_; have HB := n2_; have BK240 := n3_; have GW240 := n4_; have GE240 := n5_; have NB232_240 := n6_; have NB240_232 := n7_; have NB236_240 := n8_; have NB240_236 := n9_; clear n0_ n1_ n2_ n3_ n4_ n5_ n6_ n7_ n8_ n9_; clear hb hbox hg; have hnb51 := NB240_232.out; have hnc51 := NB232_240.out; have hnb52 := NB240_236.out; have hnc52 := NB236_240.out; have hcz53_0 : w50.cell? ⟨gb240, 0, none⟩ = some (.int .i64 0) := (blk_cell BK240.out 0).trans rfl; have hcz53_1 : w50.cell? ⟨gb240, 1, none⟩ = some (.int .i64 0) := (blk_cell BK240.out 1).trans rfl; have hfz53_0 := blk_frozen BK240.out 0; have hfz53_1 := blk_frozen BK240.out 1))
                                have n0_ : Aside0 (((w50.setCell ⟨gb240, 0, none⟩ (.int .i64 t237)).setCell ⟨gb240, 1, none⟩ (.int .i64 t238)).heap[gb232]? = some (.cells #[.int .i64 t230, .int .i64 t231] 23 (0, 0))) := ⟨by (with_reducible repeat (first | refine blk_drewN ?_ _ | refine blk_drew ?_ | refine blk_alloc ?_ _)); refine blk_far ?_ NB232_240.out _; (with_reducible repeat (first | refine blk_drewN ?_ _ | refine blk_drew ?_ | refine blk_alloc ?_ _)); refine blk_far ?_ NB232_240.out _; (with_reducible repeat (first | refine blk_drewN ?_ _ | refine blk_drew ?_ | refine blk_alloc ?_ _)); exact BK232.out⟩
                                have n1_ : Aside0 (((w50.setCell ⟨gb240, 0, none⟩ (.int .i64 t237)).setCell ⟨gb240, 1, none⟩ (.int .i64 t238)).heap[gb236]? = some (.cells #[.int .i64 t233, .int .i64 t234] 23 (0, 0))) := ⟨by (with_reducible repeat (first | refine blk_drewN ?_ _ | refine blk_drew ?_ | refine blk_alloc ?_ _)); refine blk_far ?_ NB236_240.out _; (with_reducible repeat (first | refine blk_drewN ?_ _ | refine blk_drew ?_ | refine blk_alloc ?_ _)); refine blk_far ?_ NB236_240.out _; (with_reducible repeat (first | refine blk_drewN ?_ _ | refine blk_drew ?_ | refine blk_alloc ?_ _)); exact BK236.out⟩
                                have n2_ : Aside0 (((w50.setCell ⟨gb240, 0, none⟩ (.int .i64 t237)).setCell ⟨gb240, 1, none⟩ (.int .i64 t238)).heap[gb240]? = some (.cells #[.int .i64 t237, .int .i64 t238] 23 (0, 0))) := ⟨by (with_reducible repeat (first | refine blk_drewN ?_ _ | refine blk_drew ?_ | refine blk_alloc ?_ _)); refine blk_put (cs := #[.int .i64 t237, .int .i64 0]) ?_ 1 _ rfl; (with_reducible repeat (first | refine blk_drewN ?_ _ | refine blk_drew ?_ | refine blk_alloc ?_ _)); refine blk_put (cs := #[.int .i64 0, .int .i64 0]) ?_ 0 _ rfl; (with_reducible repeat (first | refine blk_drewN ?_ _ | refine blk_drew ?_ | refine blk_alloc ?_ _)); exact BK240.out⟩
                                have n3_ : Aside0 (Below w.heap.size w ((w50.setCell ⟨gb240, 0, none⟩ (.int .i64 t237)).setCell ⟨gb240, 1, none⟩ (.int .i64 t238))) := ⟨by repeat (first | (with_reducible first | exact HB.out | apply below_alloc | apply pw_below_drewN | apply below_drew1 | refine below_set ?_ GE232.out | refine below_set ?_ GE236.out | refine below_set ?_ GE240.out) | exact HB.out)⟩
                                (try clear BK232)
                                (try clear BK236)
                                (try clear BK240)
                                (try clear HB)
                                generalize ((w50.setCell ⟨gb240, 0, none⟩ (.int .i64 t237)).setCell ⟨gb240, 1, none⟩ (.int .i64 t238)) = w54 at n0_ n1_ n2_ n3_ ⊢
                                have BK232 := n0_
                                have BK236 := n1_
                                have BK240 := n2_
                                have HB := n3_
                                clear n0_ n1_ n2_ n3_
                                have n0_ := Aside0.mk (blk_drew BK232.out)
                                have n1_ := Aside0.mk (blk_drew BK236.out)
                                have n2_ := Aside0.mk (blk_drew BK240.out)
                                have n3_ := Aside0.mk (below_drew1 HB.out)
                                clear BK232
                                clear BK236
                                clear BK240
                                clear HB
                                have BK232 := n0_
                                have BK236 := n1_
                                have BK240 := n2_
                                have HB := n3_
                                clear n0_ n1_ n2_ n3_
                                refine start_ (n := 85) (S := fun w' => w'.cell? ⟨gb232, 0, none⟩ = some (.int .i64 t230) ∧ w'.cell? ⟨gb232, 1, none⟩ = some (.int .i64 t231) ∧ w'.cell? ⟨gb236, 0, none⟩ = some (.int .i64 t233) ∧ w'.cell? ⟨gb236, 1, none⟩ = some (.int .i64 t234)) (ds := []) #[false, false, false, false, false, false, false, false, false, false, false, false, false, false, false, false, false, false, false, false, false, false, false, false, false, false, false, false, false, false, false, false, false, false, false, false, false, false, false, false, false, false, false, false, false, false, false, false, false, false, false, false, false, false, false, false, false, false, false, false, false, false, false, false, false, false, false, false, false, false, false, false, false, false, false, false, false, false, false, false, false, false, false, false, false] (by kernel_rfl) rfl rfl ⟨(blk_cell BK232.out 0).trans rfl, (blk_cell BK232.out 1).trans rfl, (blk_cell BK236.out 0).trans rfl, (blk_cell BK236.out 1).trans rfl⟩ (fun hHeld => ?_); refine with_tabW warrantorlaw07_lives.tab4 warrantorlaw07_lives.bits4 (fun HT_ HW_ => ?_)
                                generalize w54.drew = w55 at BK232 BK236 BK240 HB hHeld ⊢
                                refine pure_ (i := 1) (N := some 16) (v := ?_) (a' := ?_) #[false, true, false, false, false, false, false, false, false, false, false, false, false, false, false, false, false, false, false, false, false, false, false, false, false, false, false, false, false, false, false, false, false, false, false, false, false, false, false, false, false, false, false, false, false, false, false, false, false, false, false, false, false, false, false, false, false, false, false, false, false, false, false, false, false, false, false, false, false, false, false, false, false, false, false, false, false, false, false, false, false, false, false, false, false] rfl rfl (any_of HT_.out (by kernel_rfl)) (fun _ _ _ h => h) (Or.inl ⟨by rfl, ?_⟩) ?_ ?_
                                rotate_left
                                · intro w'
                                  go_simp
                                  with_reducible rfl
                                rotate_left
                                · exact AP_
                                refine take_ (i := 0) (N := some 15) (v := ?_) (a' := ?_) #[true, true, false, false, false, false, false, false, false, false, false, false, false, false, false, false, false, false, false, false, false, false, false, false, false, false, false, false, false, false, false, false, false, false, false, false, false, false, false, false, false, false, false, false, false, false, false, false, false, false, false, false, false, false, false, false, false, false, false, false, false, false, false, false, false, false, false, false, false, false, false, false, false, false, false, false, false, false, false, false, false, false, false, false, false] rfl rfl (take_ofW HT_.out HW_.out (by kernel_rfl)) (fun _ _ _ h => h) (Or.inl ⟨by rfl, ?_⟩) hHeld ?_ ?_
                                rotate_left
                                · rintro w' ⟨s0, s1, s2, s3⟩
                                  go_simp
                                  with_reducible rfl
                                rotate_left
                                · exact AP_
                                refine pure_ (i := 2) (N := some 17) (v := ?_) (a' := ?_) #[true, true, true, false, false, false, false, false, false, false, false, false, false, false, false, false, false, false, false, false, false, false, false, false, false, false, false, false, false, false, false, false, false, false, false, false, false, false, false, false, false, false, false, false, false, false, false, false, false, false, false, false, false, false, false, false, false, false, false, false, false, false, false, false, false, false, false, false, false, false, false, false, false, false, false, false, false, false, false, false, false, false, false, false, false] rfl rfl (any_of HT_.out (by kernel_rfl)) (fun _ _ _ h => h) (Or.inl ⟨by rfl, ?_⟩) ?_ ?_
                                rotate_left
                                · intro w'
                                  go_simp
                                  with_reducible rfl
                                rotate_left
                                · exact AP_
                                refine pure_ (i := 3) (N := some 18) (v := ?_) (a' := ?_) #[true, true, true, true, false, false, false, false, false, false, false, false, false, false, false, false, false, false, false, false, false, false, false, false, false, false, false, false, false, false, false, false, false, false, false, false, false, false, false, false, false, false, false, false, false, false, false, false, false, false, false, false, false, false, false, false, false, false, false, false, false, false, false, false, false, false, false, false, false, false, false, false, false, false, false, false, false, false, false, false, false, false, false, false, false] rfl rfl (any_of HT_.out (by kernel_rfl)) (fun _ _ _ h => h) (Or.inl ⟨by rfl, ?_⟩) ?_ ?_
                                rotate_left
                                · intro w'
                                  go_simp
                                  with_reducible rfl
                                rotate_left
                                · exact AP_
                                refine take_ (i := 4) (N := some 19) (v := ?_) (a' := ?_) #[true, true, true, true, true, false, false, false, false, false, false, false, false, false, false, false, false, false, false, false, false, false, false, false, false, false, false, false, false, false, false, false, false, false, false, false, false, false, false, false, false, false, false, false, false, false, false, false, false, false, false, false, false, false, false, false, false, false, false, false, false, false, false, false, false, false, false, false, false, false, false, false, false, false, false, false, false, false, false, false, false, false, false, false, false] rfl rfl (take_ofW HT_.out HW_.out (by kernel_rfl)) (fun _ _ _ h => h) (Or.inl ⟨by rfl, ?_⟩) hHeld ?_ ?_
                                rotate_left
                                · rintro w' ⟨s0, s1, s2, s3⟩
                                  go_simp
                                  with_reducible rfl
                                rotate_left
                                · exact AP_
                                refine one_ (i := 5) (N := some 20) #[true, true, true, true, true, true, false, false, false, false, false, false, false, false, false, false, false, false, false, false, false, false, false, false, false, false, false, false, false, false, false, false, false, false, false, false, false, false, false, false, false, false, false, false, false, false, false, false, false, false, false, false, false, false, false, false, false, false, false, false, false, false, false, false, false, false, false, false, false, false, false, false, false, false, false, false, false, false, false, false, false, false, false, false, false] rfl rfl (one_of HT_.out (by kernel_rfl)) (by decide) (fun K hK => ?_)
                                refine goes_ Tryd.func23 (by kernel_rfl) rfl #[.agg #[.int .i64 t230, .int .i64 t231], .int .i64 2] (by rfl) rfl rfl MP_ ?_
                                with_reducible refine (itv_Move.calls k t230 t231 2 t241 t242 _ A5.out).mono ?_
                                rintro e w56 ⟨rfl, hb⟩
                                refine ⟨_, rfl, ?_⟩
                                have n0_ := Aside0.mk (blk_below (g := gb232) (o := .cells #[.int .i64 t230, .int .i64 t231] 23 (0, 0)) (bk_ BK232.out) hb)
                                have n1_ := Aside0.mk (blk_below (g := gb236) (o := .cells #[.int .i64 t233, .int .i64 t234] 23 (0, 0)) (bk_ BK236.out) hb)
                                have n2_ := Aside0.mk (blk_below (g := gb240) (o := .cells #[.int .i64 t237, .int .i64 t238] 23 (0, 0)) (bk_ BK240.out) hb)
                                have n3_ := Aside0.mk (below_step HB_ hb)
                                clear BK232
                                clear BK236
                                clear BK240
                                clear HB
                                have BK232 := n0_
                                have BK236 := n1_
                                have BK240 := n2_
                                have HB := n3_
                                clear n0_ n1_ n2_ n3_
                                (try clear hb)
                                (try clear hb2)
                                (try clear hk)
                                (try clear hi)
                                refine hK.out _ _ ⟨(blk_cell BK232.out 0).trans rfl, (blk_cell BK232.out 1).trans rfl, (blk_cell BK236.out 0).trans rfl, (blk_cell BK236.out 1).trans rfl⟩ (fun hHeld => ?_)
                                clear hK K
                                refine norm_ (a' := ?_) ?_ ?_
                                rotate_left
                                · show Act.put _ (some 20) _ = _
                                  simp only [Act.put, List.setIfInBounds_toArray, List.set_cons_zero, List.set_cons_succ, i64_w, i32_w]
                                  rfl
                                refine one_ (i := 6) (N := some 21) #[true, true, true, true, true, true, true, false, false, false, false, false, false, false, false, false, false, false, false, false, false, false, false, false, false, false, false, false, false, false, false, false, false, false, false, false, false, false, false, false, false, false, false, false, false, false, false, false, false, false, false, false, false, false, false, false, false, false, false, false, false, false, false, false, false, false, false, false, false, false, false, false, false, false, false, false, false, false, false, false, false, false, false, false, false] rfl rfl (one_of HT_.out (by kernel_rfl)) (by decide) (fun K hK => ?_)
                                refine goes_ Tryd.func34 (by kernel_rfl) rfl #[.agg #[.int .i64 t241, .int .i64 t242]] (by rfl) rfl rfl MP_ ?_
                                with_reducible refine (itv_Show.calls t241 t242 t243 _ (tb_below HTB.out HB_) A6.out).mono ?_
                                rintro e w57 ⟨rfl, hb⟩
                                refine ⟨_, rfl, ?_⟩
                                have n0_ := Aside0.mk (blk_below (g := gb232) (o := .cells #[.int .i64 t230, .int .i64 t231] 23 (0, 0)) (bk_ BK232.out) hb)
                                have n1_ := Aside0.mk (blk_below (g := gb236) (o := .cells #[.int .i64 t233, .int .i64 t234] 23 (0, 0)) (bk_ BK236.out) hb)
                                have n2_ := Aside0.mk (blk_below (g := gb240) (o := .cells #[.int .i64 t237, .int .i64 t238] 23 (0, 0)) (bk_ BK240.out) hb)
                                have n3_ := Aside0.mk (below_step HB_ hb)
                                clear BK232
                                clear BK236
                                clear BK240
                                clear HB
                                have BK232 := n0_
                                have BK236 := n1_
                                have BK240 := n2_
                                have HB := n3_
                                clear n0_ n1_ n2_ n3_
                                (try clear hb)
                                (try clear hb2)
                                (try clear hk)
                                (try clear hi)
                                refine hK.out _ _ ⟨(blk_cell BK232.out 0).trans rfl, (blk_cell BK232.out 1).trans rfl, (blk_cell BK236.out 0).trans rfl, (blk_cell BK236.out 1).trans rfl⟩ (fun hHeld => ?_)
                                clear hK K
                                refine norm_ (a' := ?_) ?_ ?_
                                rotate_left
                                · show Act.put _ (some 21) _ = _
                                  simp only [Act.put, List.setIfInBounds_toArray, List.set_cons_zero, List.set_cons_succ, i64_w, i32_w]
                                  rfl
                                refine pure_ (i := 7) (N := some 22) (v := ?_) (a' := ?_) #[true, true, true, true, true, true, true, true, false, false, false, false, false, false, false, false, false, false, false, false, false, false, false, false, false, false, false, false, false, false, false, false, false, false, false, false, false, false, false, false, false, false, false, false, false, false, false, false, false, false, false, false, false, false, false, false, false, false, false, false, false, false, false, false, false, false, false, false, false, false, false, false, false, false, false, false, false, false, false, false, false, false, false, false, false] rfl rfl (any_of HT_.out (by kernel_rfl)) (fun _ _ _ h => h) (Or.inl ⟨by rfl, ?_⟩) ?_ ?_
                                rotate_left
                                · intro w'
                                  go_simp
                                  with_reducible rfl
                                rotate_left
                                · exact AP_
                                refine pure_ (i := 8) (N := some 23) (v := ?_) (a' := ?_) #[true, true, true, true, true, true, true, true, true, false, false, false, false, false, false, false, false, false, false, false, false, false, false, false, false, false, false, false, false, false, false, false, false, false, false, false, false, false, false, false, false, false, false, false, false, false, false, false, false, false, false, false, false, false, false, false, false, false, false, false, false, false, false, false, false, false, false, false, false, false, false, false, false, false, false, false, false, false, false, false, false, false, false, false, false] rfl rfl (any_of HT_.out (by kernel_rfl)) (fun _ _ _ h => h) (Or.inl ⟨by rfl, ?_⟩) ?_ ?_
                                rotate_left
                                · intro w'
                                  go_simp
                                  with_reducible rfl
                                rotate_left
                                · exact AP_
                                refine pure_ (i := 9) (N := some 24) (v := ?_) (a' := ?_) #[true, true, true, true, true, true, true, true, true, true, false, false, false, false, false, false, false, false, false, false, false, false, false, false, false, false, false, false, false, false, false, false, false, false, false, false, false, false, false, false, false, false, false, false, false, false, false, false, false, false, false, false, false, false, false, false, false, false, false, false, false, false, false, false, false, false, false, false, false, false, false, false, false, false, false, false, false, false, false, false, false, false, false, false, false] rfl rfl (any_of HT_.out (by kernel_rfl)) (fun _ _ _ h => h) (Or.inl ⟨by rfl, ?_⟩) ?_ ?_
                                rotate_left
                                · intro w'
                                  go_simp
                                  with_reducible rfl
                                rotate_left
                                · exact AP_
                                refine pure_ (i := 13) (N := some 28) (v := ?_) (a' := ?_) #[true, true, true, true, true, true, true, true, true, true, false, false, false, true, false, false, false, false, false, false, false, false, false, false, false, false, false, false, false, false, false, false, false, false, false, false, false, false, false, false, false, false, false, false, false, false, false, false, false, false, false, false, false, false, false, false, false, false, false, false, false, false, false, false, false, false, false, false, false, false, false, false, false, false, false, false, false, false, false, false, false, false, false, false, false] rfl rfl (any_of HT_.out (by kernel_rfl)) (fun _ _ _ h => h) (Or.inl ⟨by rfl, ?_⟩) ?_ ?_
                                rotate_left
                                · intro w'
                                  go_simp
                                  with_reducible rfl
                                rotate_left
                                · exact AP_
                                refine one_ (i := 10) (N := some 25) #[true, true, true, true, true, true, true, true, true, true, true, false, false, true, false, false, false, false, false, false, false, false, false, false, false, false, false, false, false, false, false, false, false, false, false, false, false, false, false, false, false, false, false, false, false, false, false, false, false, false, false, false, false, false, false, false, false, false, false, false, false, false, false, false, false, false, false, false, false, false, false, false, false, false, false, false, false, false, false, false, false, false, false, false, false] rfl rfl (one_of HT_.out (by kernel_rfl)) (by decide) (fun K hK => ?_)
                                refine goes_ Tryd.func9 (by kernel_rfl) rfl #[.int .i64 0, .int .i64 3] (by rfl) rfl rfl MP_ ?_
                                with_reducible refine (itv_Of.calls 0 3 t244 t245 _ A8.out).mono ?_
                                rintro e w58 ⟨rfl, hb⟩
                                refine ⟨_, rfl, ?_⟩
                                have n0_ := Aside0.mk (blk_below (g := gb232) (o := .cells #[.int .i64 t230, .int .i64 t231] 23 (0, 0)) (bk_ BK232.out) hb)
                                have n1_ := Aside0.mk (blk_below (g := gb236) (o := .cells #[.int .i64 t233, .int .i64 t234] 23 (0, 0)) (bk_ BK236.out) hb)
                                have n2_ := Aside0.mk (blk_below (g := gb240) (o := .cells #[.int .i64 t237, .int .i64 t238] 23 (0, 0)) (bk_ BK240.out) hb)
                                have n3_ := Aside0.mk (below_step HB_ hb)
                                clear BK232
                                clear BK236
                                clear BK240
                                clear HB
                                have BK232 := n0_
                                have BK236 := n1_
                                have BK240 := n2_
                                have HB := n3_
                                clear n0_ n1_ n2_ n3_
                                (try clear hb)
                                (try clear hb2)
                                (try clear hk)
                                (try clear hi)
                                refine hK.out _ _ ⟨(blk_cell BK232.out 0).trans rfl, (blk_cell BK232.out 1).trans rfl, (blk_cell BK236.out 0).trans rfl, (blk_cell BK236.out 1).trans rfl⟩ (fun hHeld => ?_)
                                clear hK K
                                refine norm_ (a' := ?_) ?_ ?_
                                rotate_left
                                · show Act.put _ (some 25) _ = _
                                  simp only [Act.put, List.setIfInBounds_toArray, List.set_cons_zero, List.set_cons_succ, i64_w, i32_w]
                                  rfl
                                refine one_ (i := 11) (N := some 26) #[true, true, true, true, true, true, true, true, true, true, true, true, false, true, false, false, false, false, false, false, false, false, false, false, false, false, false, false, false, false, false, false, false, false, false, false, false, false, false, false, false, false, false, false, false, false, false, false, false, false, false, false, false, false, false, false, false, false, false, false, false, false, false, false, false, false, false, false, false, false, false, false, false, false, false, false, false, false, false, false, false, false, false, false, false] rfl rfl (one_of HT_.out (by kernel_rfl)) (by decide) (fun K hK => ?_)
                                refine goes_ Tryd.func9 (by kernel_rfl) rfl #[.int .i64 0, .int .i64 4] (by rfl) rfl rfl MP_ ?_
                                with_reducible refine (itv_Of.calls 0 4 t246 t247 _ A9.out).mono ?_
                                rintro e w59 ⟨rfl, hb⟩
                                refine ⟨_, rfl, ?_⟩
                                have n0_ := Aside0.mk (blk_below (g := gb232) (o := .cells #[.int .i64 t230, .int .i64 t231] 23 (0, 0)) (bk_ BK232.out) hb)
                                have n1_ := Aside0.mk (blk_below (g := gb236) (o := .cells #[.int .i64 t233, .int .i64 t234] 23 (0, 0)) (bk_ BK236.out) hb)
                                have n2_ := Aside0.mk (blk_below (g := gb240) (o := .cells #[.int .i64 t237, .int .i64 t238] 23 (0, 0)) (bk_ BK240.out) hb)
                                have n3_ := Aside0.mk (below_step HB_ hb)
                                clear BK232
                                clear BK236
                                clear BK240
                                clear HB
                                have BK232 := n0_
                                have BK236 := n1_
                                have BK240 := n2_
                                have HB := n3_
                                clear n0_ n1_ n2_ n3_
                                (try clear hb)
                                (try clear hb2)
                                (try clear hk)
                                (try clear hi)
                                refine hK.out _ _ ⟨(blk_cell BK232.out 0).trans rfl, (blk_cell BK232.out 1).trans rfl, (blk_cell BK236.out 0).trans rfl, (blk_cell BK236.out 1).trans rfl⟩ (fun hHeld => ?_)
                                clear hK K
                                refine norm_ (a' := ?_) ?_ ?_
                                rotate_left
                                · show Act.put _ (some 26) _ = _
                                  simp only [Act.put, List.setIfInBounds_toArray, List.set_cons_zero, List.set_cons_succ, i64_w, i32_w]
                                  rfl
                                refine one_ (i := 12) (N := some 27) #[true, true, true, true, true, true, true, true, true, true, true, true, true, true, false, false, false, false, false, false, false, false, false, false, false, false, false, false, false, false, false, false, false, false, false, false, false, false, false, false, false, false, false, false, false, false, false, false, false, false, false, false, false, false, false, false, false, false, false, false, false, false, false, false, false, false, false, false, false, false, false, false, false, false, false, false, false, false, false, false, false, false, false, false, false] rfl rfl (one_of HT_.out (by kernel_rfl)) (by decide) (fun K hK => ?_)
                                refine goes_ Tryd.func29 (by kernel_rfl) rfl #[.agg #[.int .i64 t244, .int .i64 t245], .agg #[.int .i64 t246, .int .i64 t247]] (by rfl) rfl rfl MP_ ?_
                                with_reducible refine (itv_Widen.calls t244 t245 t246 t247 t248 t249 _ A10.out).mono ?_
                                rintro e w60 ⟨rfl, hb⟩
                                refine ⟨_, rfl, ?_⟩
                                have n0_ := Aside0.mk (blk_below (g := gb232) (o := .cells #[.int .i64 t230, .int .i64 t231] 23 (0, 0)) (bk_ BK232.out) hb)
                                have n1_ := Aside0.mk (blk_below (g := gb236) (o := .cells #[.int .i64 t233, .int .i64 t234] 23 (0, 0)) (bk_ BK236.out) hb)
                                have n2_ := Aside0.mk (blk_below (g := gb240) (o := .cells #[.int .i64 t237, .int .i64 t238] 23 (0, 0)) (bk_ BK240.out) hb)
                                have n3_ := Aside0.mk (below_step HB_ hb)
                                clear BK232
                                clear BK236
                                clear BK240
                                clear HB
                                have BK232 := n0_
                                have BK236 := n1_
                                have BK240 := n2_
                                have HB := n3_
                                clear n0_ n1_ n2_ n3_
                                (try clear hb)
                                (try clear hb2)
                                (try clear hk)
                                (try clear hi)
                                refine hK.out _ _ ⟨(blk_cell BK232.out 0).trans rfl, (blk_cell BK232.out 1).trans rfl, (blk_cell BK236.out 0).trans rfl, (blk_cell BK236.out 1).trans rfl⟩ (fun hHeld => ?_)
                                clear hK K
                                refine norm_ (a' := ?_) ?_ ?_
                                rotate_left
                                · show Act.put _ (some 27) _ = _
                                  simp only [Act.put, List.setIfInBounds_toArray, List.set_cons_zero, List.set_cons_succ, i64_w, i32_w]
                                  rfl
                                refine pure_ (i := 14) (N := some 29) (v := ?_) (a' := ?_) #[true, true, true, true, true, true, true, true, true, true, true, true, true, true, true, false, false, false, false, false, false, false, false, false, false, false, false, false, false, false, false, false, false, false, false, false, false, false, false, false, false, false, false, false, false, false, false, false, false, false, false, false, false, false, false, false, false, false, false, false, false, false, false, false, false, false, false, false, false, false, false, false, false, false, false, false, false, false, false, false, false, false, false, false, false] rfl rfl (any_of HT_.out (by kernel_rfl)) (fun _ _ _ h => h) (Or.inl ⟨by rfl, ?_⟩) ?_ ?_
                                rotate_left
                                · intro w'
                                  go_simp
                                  with_reducible rfl
                                rotate_left
                                · exact AP_
                                refine pure_ (i := 15) (N := some 30) (v := ?_) (a' := ?_) #[true, true, true, true, true, true, true, true, true, true, true, true, true, true, true, true, false, false, false, false, false, false, false, false, false, false, false, false, false, false, false, false, false, false, false, false, false, false, false, false, false, false, false, false, false, false, false, false, false, false, false, false, false, false, false, false, false, false, false, false, false, false, false, false, false, false, false, false, false, false, false, false, false, false, false, false, false, false, false, false, false, false, false, false, false] rfl rfl (any_of HT_.out (by kernel_rfl)) (fun _ _ _ h => h) (Or.inl ⟨by rfl, ?_⟩) ?_ ?_
                                rotate_left
                                · intro w'
                                  go_simp
                                  with_reducible rfl
                                rotate_left
                                · exact AP_
                                refine pure_ (i := 16) (N := some 31) (v := ?_) (a' := ?_) #[true, true, true, true, true, true, true, true, true, true, true, true, true, true, true, true, true, false, false, false, false, false, false, false, false, false, false, false, false, false, false, false, false, false, false, false, false, false, false, false, false, false, false, false, false, false, false, false, false, false, false, false, false, false, false, false, false, false, false, false, false, false, false, false, false, false, false, false, false, false, false, false, false, false, false, false, false, false, false, false, false, false, false, false, false] rfl rfl (any_of HT_.out (by kernel_rfl)) (fun _ _ _ h => h) (Or.inl ⟨by rfl, ?_⟩) ?_ ?_
                                rotate_left
                                · intro w'
                                  go_simp
                                  with_reducible rfl
                                rotate_left
                                · exact AP_
                                refine pure_ (i := 17) (N := some 32) (v := ?_) (a' := ?_) #[true, true, true, true, true, true, true, true, true, true, true, true, true, true, true, true, true, true, false, false, false, false, false, false, false, false, false, false, false, false, false, false, false, false, false, false, false, false, false, false, false, false, false, false, false, false, false, false, false, false, false, false, false, false, false, false, false, false, false, false, false, false, false, false, false, false, false, false, false, false, false, false, false, false, false, false, false, false, false, false, false, false, false, false, false] rfl rfl (any_of HT_.out (by kernel_rfl)) (fun _ _ _ h => h) (Or.inl ⟨by rfl, ?_⟩) ?_ ?_
                                rotate_left
                                · intro w'
                                  go_simp
                                  with_reducible rfl
                                rotate_left
                                · exact AP_
                                refine pure_ (i := 18) (N := some 33) (v := ?_) (a' := ?_) #[true, true, true, true, true, true, true, true, true, true, true, true, true, true, true, true, true, true, true, false, false, false, false, false, false, false, false, false, false, false, false, false, false, false, false, false, false, false, false, false, false, false, false, false, false, false, false, false, false, false, false, false, false, false, false, false, false, false, false, false, false, false, false, false, false, false, false, false, false, false, false, false, false, false, false, false, false, false, false, false, false, false, false, false, false] rfl rfl (any_of HT_.out (by kernel_rfl)) (fun _ _ _ h => h) (Or.inl ⟨by rfl, ?_⟩) ?_ ?_
                                rotate_left
                                · intro w'
                                  go_simp
                                  with_reducible rfl
                                rotate_left
                                · exact AP_
                                refine pure_ (i := 19) (N := some 34) (v := ?_) (a' := ?_) #[true, true, true, true, true, true, true, true, true, true, true, true, true, true, true, true, true, true, true, true, false, false, false, false, false, false, false, false, false, false, false, false, false, false, false, false, false, false, false, false, false, false, false, false, false, false, false, false, false, false, false, false, false, false, false, false, false, false, false, false, false, false, false, false, false, false, false, false, false, false, false, false, false, false, false, false, false, false, false, false, false, false, false, false, false] rfl rfl (any_of HT_.out (by kernel_rfl)) (fun _ _ _ h => h) (Or.inl ⟨by rfl, ?_⟩) ?_ ?_
                                rotate_left
                                · intro w'
                                  go_simp
                                  with_reducible rfl
                                rotate_left
                                · exact AP_
                                refine pure_ (i := 20) (N := some 35) (v := ?_) (a' := ?_) #[true, true, true, true, true, true, true, true, true, true, true, true, true, true, true, true, true, true, true, true, true, false, false, false, false, false, false, false, false, false, false, false, false, false, false, false, false, false, false, false, false, false, false, false, false, false, false, false, false, false, false, false, false, false, false, false, false, false, false, false, false, false, false, false, false, false, false, false, false, false, false, false, false, false, false, false, false, false, false, false, false, false, false, false, false] rfl rfl (any_of HT_.out (by kernel_rfl)) (fun _ _ _ h => h) (Or.inl ⟨by rfl, ?_⟩) ?_ ?_
                                rotate_left
                                · intro w'
                                  go_simp
                                  with_reducible rfl
                                rotate_left
                                · exact AP_
                                refine pure_ (i := 22) (N := some 37) (v := ?_) (a' := ?_) #[true, true, true, true, true, true, true, true, true, true, true, true, true, true, true, true, true, true, true, true, true, false, true, false, false, false, false, false, false, false, false, false, false, false, false, false, false, false, false, false, false, false, false, false, false, false, false, false, false, false, false, false, false, false, false, false, false, false, false, false, false, false, false, false, false, false, false, false, false, false, false, false, false, false, false, false, false, false, false, false, false, false, false, false, false] rfl rfl (any_of HT_.out (by kernel_rfl)) (fun _ _ _ h => h) (Or.inl ⟨by rfl, ?_⟩) ?_ ?_
                                rotate_left
                                · intro w'
                                  go_simp
                                  with_reducible rfl
                                rotate_left
                                · exact AP_
                                refine take_ (i := 21) (N := some 36) (v := ?_) (a' := ?_) #[true, true, true, true, true, true, true, true, true, true, true, true, true, true, true, true, true, true, true, true, true, true, true, false, false, false, false, false, false, false, false, false, false, false, false, false, false, false, false, false, false, false, false, false, false, false, false, false, false, false, false, false, false, false, false, false, false, false, false, false, false, false, false, false, false, false, false, false, false, false, false, false, false, false, false, false, false, false, false, false, false, false, false, false, false] rfl rfl (take_ofW HT_.out HW_.out (by kernel_rfl)) (fun _ _ _ h => h) (Or.inl ⟨by rfl, ?_⟩) hHeld ?_ ?_
                                rotate_left
                                · rintro w' ⟨s0, s1, s2, s3⟩
                                  go_simp
                                  with_reducible rfl
                                rotate_left
                                · exact AP_
                                refine pure_ (i := 23) (N := some 38) (v := ?_) (a' := ?_) #[true, true, true, true, true, true, true, true, true, true, true, true, true, true, true, true, true, true, true, true, true, true, true, true, false, false, false, false, false, false, false, false, false, false, false, false, false, false, false, false, false, false, false, false, false, false, false, false, false, false, false, false, false, false, false, false, false, false, false, false, false, false, false, false, false, false, false, false, false, false, false, false, false, false, false, false, false, false, false, false, false, false, false, false, false] rfl rfl (any_of HT_.out (by kernel_rfl)) (fun _ _ _ h => h) (Or.inl ⟨by rfl, ?_⟩) ?_ ?_
                                rotate_left
                                · intro w'
                                  go_simp
                                  with_reducible rfl
                                rotate_left
                                · exact AP_
                                refine pure_ (i := 24) (N := some 39) (v := ?_) (a' := ?_) #[true, true, true, true, true, true, true, true, true, true, true, true, true, true, true, true, true, true, true, true, true, true, true, true, true, false, false, false, false, false, false, false, false, false, false, false, false, false, false, false, false, false, false, false, false, false, false, false, false, false, false, false, false, false, false, false, false, false, false, false, false, false, false, false, false, false, false, false, false, false, false, false, false, false, false, false, false, false, false, false, false, false, false, false, false] rfl rfl (any_of HT_.out (by kernel_rfl)) (fun _ _ _ h => h) (Or.inl ⟨by rfl, ?_⟩) ?_ ?_
                                rotate_left
                                · intro w'
                                  go_simp
                                  with_reducible rfl
                                rotate_left
                                · exact AP_
                                refine pure_ (i := 25) (N := some 40) (v := ?_) (a' := ?_) #[true, true, true, true, true, true, true, true, true, true, true, true, true, true, true, true, true, true, true, true, true, true, true, true, true, true, false, false, false, false, false, false, false, false, false, false, false, false, false, false, false, false, false, false, false, false, false, false, false, false, false, false, false, false, false, false, false, false, false, false, false, false, false, false, false, false, false, false, false, false, false, false, false, false, false, false, false, false, false, false, false, false, false, false, false] rfl rfl (any_of HT_.out (by kernel_rfl)) (fun _ _ _ h => h) (Or.inl ⟨by rfl, ?_⟩) ?_ ?_
                                rotate_left
                                · intro w'
                                  go_simp
                                  with_reducible rfl
                                rotate_left
                                · exact AP_
                                refine pure_ (i := 26) (N := some 41) (v := ?_) (a' := ?_) #[true, true, true, true, true, true, true, true, true, true, true, true, true, true, true, true, true, true, true, true, true, true, true, true, true, true, true, false, false, false, false, false, false, false, false, false, false, false, false, false, false, false, false, false, false, false, false, false, false, false, false, false, false, false, false, false, false, false, false, false, false, false, false, false, false, false, false, false, false, false, false, false, false, false, false, false, false, false, false, false, false, false, false, false, false] rfl rfl (any_of HT_.out (by kernel_rfl)) (fun _ _ _ h => h) (Or.inl ⟨by rfl, ?_⟩) ?_ ?_
                                rotate_left
                                · intro w'
                                  go_simp
                                  with_reducible rfl
                                rotate_left
                                · exact AP_
                                refine pure_ (i := 27) (N := some 42) (v := ?_) (a' := ?_) #[true, true, true, true, true, true, true, true, true, true, true, true, true, true, true, true, true, true, true, true, true, true, true, true, true, true, true, true, false, false, false, false, false, false, false, false, false, false, false, false, false, false, false, false, false, false, false, false, false, false, false, false, false, false, false, false, false, false, false, false, false, false, false, false, false, false, false, false, false, false, false, false, false, false, false, false, false, false, false, false, false, false, false, false, false] rfl rfl (any_of HT_.out (by kernel_rfl)) (fun _ _ _ h => h) (Or.inl ⟨by rfl, ?_⟩) ?_ ?_
                                rotate_left
                                · intro w'
                                  go_simp
                                  with_reducible rfl
                                rotate_left
                                · exact AP_
                                refine pure_ (i := 28) (N := some 43) (v := ?_) (a' := ?_) #[true, true, true, true, true, true, true, true, true, true, true, true, true, true, true, true, true, true, true, true, true, true, true, true, true, true, true, true, true, false, false, false, false, false, false, false, false, false, false, false, false, false, false, false, false, false, false, false, false, false, false, false, false, false, false, false, false, false, false, false, false, false, false, false, false, false, false, false, false, false, false, false, false, false, false, false, false, false, false, false, false, false, false, false, false] rfl rfl (any_of HT_.out (by kernel_rfl)) (fun _ _ _ h => h) (Or.inl ⟨by rfl, ?_⟩) ?_ ?_
                                rotate_left
                                · intro w'
                                  go_simp
                                  with_reducible rfl
                                rotate_left
                                · exact AP_
                                refine pure_ (i := 29) (N := some 44) (v := ?_) (a' := ?_) #[true, true, true, true, true, true, true, true, true, true, true, true, true, true, true, true, true, true, true, true, true, true, true, true, true, true, true, true, true, true, false, false, false, false, false, false, false, false, false, false, false, false, false, false, false, false, false, false, false, false, false, false, false, false, false, false, false, false, false, false, false, false, false, false, false, false, false, false, false, false, false, false, false, false, false, false, false, false, false, false, false, false, false, false, false] rfl rfl (any_of HT_.out (by kernel_rfl)) (fun _ _ _ h => h) (Or.inl ⟨by rfl, ?_⟩) ?_ ?_
                                rotate_left
                                · intro w'
                                  go_simp
                                  with_reducible rfl
                                rotate_left
                                · exact AP_
                                refine pure_ (i := 31) (N := some 46) (v := ?_) (a' := ?_) #[true, true, true, true, true, true, true, true, true, true, true, true, true, true, true, true, true, true, true, true, true, true, true, true, true, true, true, true, true, true, false, true, false, false, false, false, false, false, false, false, false, false, false, false, false, false, false, false, false, false, false, false, false, false, false, false, false, false, false, false, false, false, false, false, false, false, false, false, false, false, false, false, false, false, false, false, false, false, false, false, false, false, false, false, false] rfl rfl (any_of HT_.out (by kernel_rfl)) (fun _ _ _ h => h) (Or.inl ⟨by rfl, ?_⟩) ?_ ?_
                                rotate_left
                                · intro w'
                                  go_simp
                                  with_reducible rfl
                                rotate_left
                                · exact AP_
                                refine one_ (i := 30) (N := some 45) #[true, true, true, true, true, true, true, true, true, true, true, true, true, true, true, true, true, true, true, true, true, true, true, true, true, true, true, true, true, true, true, true, false, false, false, false, false, false, false, false, false, false, false, false, false, false, false, false, false, false, false, false, false, false, false, false, false, false, false, false, false, false, false, false, false, false, false, false, false, false, false, false, false, false, false, false, false, false, false, false, false, false, false, false, false] rfl rfl (one_of HT_.out (by kernel_rfl)) (by decide) (fun K hK => ?_)
                                refine goes_ Tryd.func33 (by kernel_rfl) rfl #[] (by rfl) rfl rfl MP_ ?_
                                with_reducible refine (itv_None.calls  t250 t251 _ A15.out).mono ?_
                                rintro e w61 ⟨rfl, hb⟩
                                refine ⟨_, rfl, ?_⟩
                                have n0_ := Aside0.mk (blk_below (g := gb232) (o := .cells #[.int .i64 t230, .int .i64 t231] 23 (0, 0)) (bk_ BK232.out) hb)
                                have n1_ := Aside0.mk (blk_below (g := gb236) (o := .cells #[.int .i64 t233, .int .i64 t234] 23 (0, 0)) (bk_ BK236.out) hb)
                                have n2_ := Aside0.mk (blk_below (g := gb240) (o := .cells #[.int .i64 t237, .int .i64 t238] 23 (0, 0)) (bk_ BK240.out) hb)
                                have n3_ := Aside0.mk (below_step HB_ hb)
                                clear BK232
                                clear BK236
                                clear BK240
                                clear HB
                                have BK232 := n0_
                                have BK236 := n1_
                                have BK240 := n2_
                                have HB := n3_
                                clear n0_ n1_ n2_ n3_
                                (try clear hb)
                                (try clear hb2)
                                (try clear hk)
                                (try clear hi)
                                refine hK.out _ _ ⟨(blk_cell BK232.out 0).trans rfl, (blk_cell BK232.out 1).trans rfl, (blk_cell BK236.out 0).trans rfl, (blk_cell BK236.out 1).trans rfl⟩ (fun hHeld => ?_)
                                clear hK K
                                refine norm_ (a' := ?_) ?_ ?_
                                rotate_left
                                · show Act.put _ (some 45) _ = _
                                  simp only [Act.put, List.setIfInBounds_toArray, List.set_cons_zero, List.set_cons_succ, i64_w, i32_w]
                                  rfl
                                refine pure_ (i := 32) (N := some 47) (v := ?_) (a' := ?_) #[true, true, true, true, true, true, true, true, true, true, true, true, true, true, true, true, true, true, true, true, true, true, true, true, true, true, true, true, true, true, true, true, true, false, false, false, false, false, false, false, false, false, false, false, false, false, false, false, false, false, false, false, false, false, false, false, false, false, false, false, false, false, false, false, false, false, false, false, false, false, false, false, false, false, false, false, false, false, false, false, false, false, false, false, false] rfl rfl (any_of HT_.out (by kernel_rfl)) (fun _ _ _ h => h) (Or.inl ⟨by rfl, ?_⟩) ?_ ?_
                                rotate_left
                                · intro w'
                                  go_simp
                                  with_reducible rfl
                                rotate_left
                                · exact AP_
                                refine pure_ (i := 33) (N := some 48) (v := ?_) (a' := ?_) #[true, true, true, true, true, true, true, true, true, true, true, true, true, true, true, true, true, true, true, true, true, true, true, true, true, true, true, true, true, true, true, true, true, true, false, false, false, false, false, false, false, false, false, false, false, false, false, false, false, false, false, false, false, false, false, false, false, false, false, false, false, false, false, false, false, false, false, false, false, false, false, false, false, false, false, false, false, false, false, false, false, false, false, false, false] rfl rfl (any_of HT_.out (by kernel_rfl)) (fun _ _ _ h => h) (Or.inl ⟨by rfl, ?_⟩) ?_ ?_
                                rotate_left
                                · intro w'
                                  go_simp
                                  with_reducible rfl
                                rotate_left
                                · exact AP_
                                refine pure_ (i := 34) (N := some 49) (v := ?_) (a' := ?_) #[true, true, true, true, true, true, true, true, true, true, true, true, true, true, true, true, true, true, true, true, true, true, true, true, true, true, true, true, true, true, true, true, true, true, true, false, false, false, false, false, false, false, false, false, false, false, false, false, false, false, false, false, false, false, false, false, false, false, false, false, false, false, false, false, false, false, false, false, false, false, false, false, false, false, false, false, false, false, false, false, false, false, false, false, false] rfl rfl (any_of HT_.out (by kernel_rfl)) (fun _ _ _ h => h) (Or.inl ⟨by rfl, ?_⟩) ?_ ?_
                                rotate_left
                                · intro w'
                                  go_simp
                                  with_reducible rfl
                                rotate_left
                                · exact AP_
                                refine one_ (i := 35) (N := some 50) #[true, true, true, true, true, true, true, true, true, true, true, true, true, true, true, true, true, true, true, true, true, true, true, true, true, true, true, true, true, true, true, true, true, true, true, true, false, false, false, false, false, false, false, false, false, false, false, false, false, false, false, false, false, false, false, false, false, false, false, false, false, false, false, false, false, false, false, false, false, false, false, false, false, false, false, false, false, false, false, false, false, false, false, false, false] rfl rfl (one_of HT_.out (by kernel_rfl)) (by decide) (fun K hK => ?_)
                                refine goes_ Tryd.func9 (by kernel_rfl) rfl #[.int .i64 2, .int .i64 4] (by rfl) rfl rfl MP_ ?_
                                with_reducible refine (itv_Of.calls 2 4 t252 t253 _ A17.out).mono ?_
                                rintro e w62 ⟨rfl, hb⟩
                                refine ⟨_, rfl, ?_⟩
                                have n0_ := Aside0.mk (blk_below (g := gb232) (o := .cells #[.int .i64 t230, .int .i64 t231] 23 (0, 0)) (bk_ BK232.out) hb)
                                have n1_ := Aside0.mk (blk_below (g := gb236) (o := .cells #[.int .i64 t233, .int .i64 t234] 23 (0, 0)) (bk_ BK236.out) hb)
                                have n2_ := Aside0.mk (blk_below (g := gb240) (o := .cells #[.int .i64 t237, .int .i64 t238] 23 (0, 0)) (bk_ BK240.out) hb)
                                have n3_ := Aside0.mk (below_step HB_ hb)
                                clear BK232
                                clear BK236
                                clear BK240
                                clear HB
                                have BK232 := n0_
                                have BK236 := n1_
                                have BK240 := n2_
                                have HB := n3_
                                clear n0_ n1_ n2_ n3_
                                (try clear hb)
                                (try clear hb2)
                                (try clear hk)
                                (try clear hi)
                                refine hK.out _ _ ⟨(blk_cell BK232.out 0).trans rfl, (blk_cell BK232.out 1).trans rfl, (blk_cell BK236.out 0).trans rfl, (blk_cell BK236.out 1).trans rfl⟩ (fun hHeld => ?_)
                                clear hK K
                                refine norm_ (a' := ?_) ?_ ?_
                                rotate_left
                                · show Act.put _ (some 50) _ = _
                                  simp only [Act.put, List.setIfInBounds_toArray, List.set_cons_zero, List.set_cons_succ, i64_w, i32_w]
                                  rfl
                                refine one_ (i := 36) (N := some 51) #[true, true, true, true, true, true, true, true, true, true, true, true, true, true, true, true, true, true, true, true, true, true, true, true, true, true, true, true, true, true, true, true, true, true, true, true, true, false, false, false, false, false, false, false, false, false, false, false, false, false, false, false, false, false, false, false, false, false, false, false, false, false, false, false, false, false, false, false, false, false, false, false, false, false, false, false, false, false, false, false, false, false, false, false, false] rfl rfl (one_of HT_.out (by kernel_rfl)) (by decide) (fun K hK => ?_)
                                refine goes_ Tryd.func12 (by kernel_rfl) rfl #[.agg #[.int .i64 t252, .int .i64 t253]] (by rfl) rfl rfl MP_ ?_
                                with_reducible refine (itv_Size.calls t252 t253 t254 _ A18.out).mono ?_
                                rintro e w63 ⟨rfl, hb⟩
                                refine ⟨_, rfl, ?_⟩
                                have n0_ := Aside0.mk (blk_below (g := gb232) (o := .cells #[.int .i64 t230, .int .i64 t231] 23 (0, 0)) (bk_ BK232.out) hb)
                                have n1_ := Aside0.mk (blk_below (g := gb236) (o := .cells #[.int .i64 t233, .int .i64 t234] 23 (0, 0)) (bk_ BK236.out) hb)
                                have n2_ := Aside0.mk (blk_below (g := gb240) (o := .cells #[.int .i64 t237, .int .i64 t238] 23 (0, 0)) (bk_ BK240.out) hb)
                                have n3_ := Aside0.mk (below_step HB_ hb)
                                clear BK232
                                clear BK236
                                clear BK240
                                clear HB
                                have BK232 := n0_
                                have BK236 := n1_
                                have BK240 := n2_
                                have HB := n3_
                                clear n0_ n1_ n2_ n3_
                                (try clear hb)
                                (try clear hb2)
                                (try clear hk)
                                (try clear hi)
                                refine hK.out _ _ ⟨(blk_cell BK232.out 0).trans rfl, (blk_cell BK232.out 1).trans rfl, (blk_cell BK236.out 0).trans rfl, (blk_cell BK236.out 1).trans rfl⟩ (fun hHeld => ?_)
                                clear hK K
                                refine norm_ (a' := ?_) ?_ ?_
                                rotate_left
                                · show Act.put _ (some 51) _ = _
                                  simp only [Act.put, List.setIfInBounds_toArray, List.set_cons_zero, List.set_cons_succ, i64_w, i32_w]
                                  rfl
                                refine pure_ (i := 37) (N := some 52) (v := ?_) (a' := ?_) #[true, true, true, true, true, true, true, true, true, true, true, true, true, true, true, true, true, true, true, true, true, true, true, true, true, true, true, true, true, true, true, true, true, true, true, true, true, true, false, false, false, false, false, false, false, false, false, false, false, false, false, false, false, false, false, false, false, false, false, false, false, false, false, false, false, false, false, false, false, false, false, false, false, false, false, false, false, false, false, false, false, false, false, false, false] rfl rfl (any_of HT_.out (by kernel_rfl)) (fun _ _ _ h => h) (Or.inl ⟨by rfl, ?_⟩) ?_ ?_
                                rotate_left
                                · intro w'
                                  go_simp
                                  with_reducible rfl
                                rotate_left
                                · exact AP_
                                refine pure_ (i := 38) (N := some 53) (v := ?_) (a' := ?_) #[true, true, true, true, true, true, true, true, true, true, true, true, true, true, true, true, true, true, true, true, true, true, true, true, true, true, true, true, true, true, true, true, true, true, true, true, true, true, true, false, false, false, false, false, false, false, false, false, false, false, false, false, false, false, false, false, false, false, false, false, false, false, false, false, false, false, false, false, false, false, false, false, false, false, false, false, false, false, false, false, false, false, false, false, false] rfl rfl (any_of HT_.out (by kernel_rfl)) (fun _ _ _ h => h) (Or.inl ⟨by rfl, ?_⟩) ?_ ?_
                                rotate_left
                                · intro w'
                                  go_simp
                                  with_reducible rfl
                                rotate_left
                                · exact AP_
                                refine pure_ (i := 39) (N := some 54) (v := ?_) (a' := ?_) #[true, true, true, true, true, true, true, true, true, true, true, true, true, true, true, true, true, true, true, true, true, true, true, true, true, true, true, true, true, true, true, true, true, true, true, true, true, true, true, true, false, false, false, false, false, false, false, false, false, false, false, false, false, false, false, false, false, false, false, false, false, false, false, false, false, false, false, false, false, false, false, false, false, false, false, false, false, false, false, false, false, false, false, false, false] rfl rfl (any_of HT_.out (by kernel_rfl)) (fun _ _ _ h => h) (Or.inl ⟨by rfl, ?_⟩) ?_ ?_
                                rotate_left
                                · intro w'
                                  go_simp
                                  with_reducible rfl
                                rotate_left
                                · exact AP_
                                refine take_ (i := 40) (N := some 55) (v := ?_) (a' := ?_) #[true, true, true, true, true, true, true, true, true, true, true, true, true, true, true, true, true, true, true, true, true, true, true, true, true, true, true, true, true, true, true, true, true, true, true, true, true, true, true, true, true, false, false, false, false, false, false, false, false, false, false, false, false, false, false, false, false, false, false, false, false, false, false, false, false, false, false, false, false, false, false, false, false, false, false, false, false, false, false, false, false, false, false, false, false] rfl rfl (take_ofW HT_.out HW_.out (by kernel_rfl)) (fun _ _ _ h => h) (Or.inl ⟨by rfl, ?_⟩) hHeld ?_ ?_
                                rotate_left
                                · rintro w' ⟨s0, s1, s2, s3⟩
                                  go_simp
                                  with_reducible rfl
                                rotate_left
                                · exact AP_
                                refine one_ (i := 41) (N := some 56) #[true, true, true, true, true, true, true, true, true, true, true, true, true, true, true, true, true, true, true, true, true, true, true, true, true, true, true, true, true, true, true, true, true, true, true, true, true, true, true, true, true, true, false, false, false, false, false, false, false, false, false, false, false, false, false, false, false, false, false, false, false, false, false, false, false, false, false, false, false, false, false, false, false, false, false, false, false, false, false, false, false, false, false, false, false] rfl rfl (one_of HT_.out (by kernel_rfl)) (by decide) (fun K hK => ?_)
                                refine goes_ Tryd.func14 (by kernel_rfl) rfl #[.agg #[.int .i64 t230, .int .i64 t231], .int .i64 5] (by rfl) rfl rfl MP_ ?_
                                with_reducible refine (itv_Has.calls t230 t231 5 true _ A20.out).mono ?_
                                rintro e w64 ⟨rfl, hb⟩
                                refine ⟨_, rfl, ?_⟩
                                have n0_ := Aside0.mk (blk_below (g := gb232) (o := .cells #[.int .i64 t230, .int .i64 t231] 23 (0, 0)) (bk_ BK232.out) hb)
                                have n1_ := Aside0.mk (blk_below (g := gb236) (o := .cells #[.int .i64 t233, .int .i64 t234] 23 (0, 0)) (bk_ BK236.out) hb)
                                have n2_ := Aside0.mk (blk_below (g := gb240) (o := .cells #[.int .i64 t237, .int .i64 t238] 23 (0, 0)) (bk_ BK240.out) hb)
                                have n3_ := Aside0.mk (below_step HB_ hb)
                                clear BK232
                                clear BK236
                                clear BK240
                                clear HB
                                have BK232 := n0_
                                have BK236 := n1_
                                have BK240 := n2_
                                have HB := n3_
                                clear n0_ n1_ n2_ n3_
                                (try clear hb)
                                (try clear hb2)
                                (try clear hk)
                                (try clear hi)
                                refine hK.out _ _ ⟨(blk_cell BK232.out 0).trans rfl, (blk_cell BK232.out 1).trans rfl, (blk_cell BK236.out 0).trans rfl, (blk_cell BK236.out 1).trans rfl⟩ (fun hHeld => ?_)
                                clear hK K
                                refine norm_ (a' := ?_) ?_ ?_
                                rotate_left
                                · show Act.put _ (some 56) _ = _
                                  simp only [Act.put, List.setIfInBounds_toArray, List.set_cons_zero, List.set_cons_succ, i64_w, i32_w]
                                  rfl
                                refine pure_ (i := 42) (N := some 57) (v := ?_) (a' := ?_) #[true, true, true, true, true, true, true, true, true, true, true, true, true, true, true, true, true, true, true, true, true, true, true, true, true, true, true, true, true, true, true, true, true, true, true, true, true, true, true, true, true, true, true, false, false, false, false, false, false, false, false, false, false, false, false, false, false, false, false, false, false, false, false, false, false, false, false, false, false, false, false, false, false, false, false, false, false, false, false, false, false, false, false, false, false] rfl rfl (any_of HT_.out (by kernel_rfl)) (fun _ _ _ h => h) (Or.inl ⟨by rfl, ?_⟩) ?_ ?_
                                rotate_left
                                · intro w'
                                  go_simp
                                  with_reducible rfl
                                rotate_left
                                · exact AP_
                                refine pure_ (i := 43) (N := some 58) (v := ?_) (a' := ?_) #[true, true, true, true, true, true, true, true, true, true, true, true, true, true, true, true, true, true, true, true, true, true, true, true, true, true, true, true, true, true, true, true, true, true, true, true, true, true, true, true, true, true, true, true, false, false, false, false, false, false, false, false, false, false, false, false, false, false, false, false, false, false, false, false, false, false, false, false, false, false, false, false, false, false, false, false, false, false, false, false, false, false, false, false, false] rfl rfl (any_of HT_.out (by kernel_rfl)) (fun _ _ _ h => h) (Or.inl ⟨by rfl, ?_⟩) ?_ ?_
                                rotate_left
                                · intro w'
                                  go_simp
                                  with_reducible rfl
                                rotate_left
                                · exact AP_
                                refine take_ (i := 44) (N := some 59) (v := ?_) (a' := ?_) #[true, true, true, true, true, true, true, true, true, true, true, true, true, true, true, true, true, true, true, true, true, true, true, true, true, true, true, true, true, true, true, true, true, true, true, true, true, true, true, true, true, true, true, true, true, false, false, false, false, false, false, false, false, false, false, false, false, false, false, false, false, false, false, false, false, false, false, false, false, false, false, false, false, false, false, false, false, false, false, false, false, false, false, false, false] rfl rfl (take_ofW HT_.out HW_.out (by kernel_rfl)) (fun _ _ _ h => h) (Or.inl ⟨by rfl, ?_⟩) hHeld ?_ ?_
                                rotate_left
                                · rintro w' ⟨s0, s1, s2, s3⟩
                                  go_simp
                                  with_reducible rfl
                                rotate_left
                                · exact AP_
                                refine one_ (i := 45) (N := some 60) #[true, true, true, true, true, true, true, true, true, true, true, true, true, true, true, true, true, true, true, true, true, true, true, true, true, true, true, true, true, true, true, true, true, true, true, true, true, true, true, true, true, true, true, true, true, true, false, false, false, false, false, false, false, false, false, false, false, false, false, false, false, false, false, false, false, false, false, false, false, false, false, false, false, false, false, false, false, false, false, false, false, false, false, false, false] rfl rfl (one_of HT_.out (by kernel_rfl)) (by decide) (fun K hK => ?_)
                                refine goes_ Tryd.func31 (by kernel_rfl) rfl #[] (by rfl) rfl rfl MP_ ?_
                                with_reducible refine (itv_All.calls  t256 t257 _ A22.out).mono ?_
                                rintro e w65 ⟨rfl, hb⟩
                                refine ⟨_, rfl, ?_⟩
                                have n0_ := Aside0.mk (blk_below (g := gb232) (o := .cells #[.int .i64 t230, .int .i64 t231] 23 (0, 0)) (bk_ BK232.out) hb)
                                have n1_ := Aside0.mk (blk_below (g := gb236) (o := .cells #[.int .i64 t233, .int .i64 t234] 23 (0, 0)) (bk_ BK236.out) hb)
                                have n2_ := Aside0.mk (blk_below (g := gb240) (o := .cells #[.int .i64 t237, .int .i64 t238] 23 (0, 0)) (bk_ BK240.out) hb)
                                have n3_ := Aside0.mk (below_step HB_ hb)
                                clear BK232
                                clear BK236
                                clear BK240
                                clear HB
                                have BK232 := n0_
                                have BK236 := n1_
                                have BK240 := n2_
                                have HB := n3_
                                clear n0_ n1_ n2_ n3_
                                (try clear hb)
                                (try clear hb2)
                                (try clear hk)
                                (try clear hi)
                                refine hK.out _ _ ⟨(blk_cell BK232.out 0).trans rfl, (blk_cell BK232.out 1).trans rfl, (blk_cell BK236.out 0).trans rfl, (blk_cell BK236.out 1).trans rfl⟩ (fun hHeld => ?_)
                                clear hK K
                                refine norm_ (a' := ?_) ?_ ?_
                                rotate_left
                                · show Act.put _ (some 60) _ = _
                                  simp only [Act.put, List.setIfInBounds_toArray, List.set_cons_zero, List.set_cons_succ, i64_w, i32_w]
                                  rfl
                                refine one_ (i := 46) (N := some 61) #[true, true, true, true, true, true, true, true, true, true, true, true, true, true, true, true, true, true, true, true, true, true, true, true, true, true, true, true, true, true, true, true, true, true, true, true, true, true, true, true, true, true, true, true, true, true, true, false, false, false, false, false, false, false, false, false, false, false, false, false, false, false, false, false, false, false, false, false, false, false, false, false, false, false, false, false, false, false, false, false, false, false, false, false, false] rfl rfl (one_of HT_.out (by kernel_rfl)) (by decide) (fun K hK => ?_)
                                refine goes_ Tryd.func16 (by kernel_rfl) rfl #[.agg #[.int .i64 t230, .int .i64 t231], .agg #[.int .i64 t256, .int .i64 t257]] (by rfl) rfl rfl MP_ ?_
                                with_reducible refine (itv_Leq.calls t230 t231 t256 t257 true _ A23.out).mono ?_
                                rintro e w66 ⟨rfl, hb⟩
                                refine ⟨_, rfl, ?_⟩
                                have n0_ := Aside0.mk (blk_below (g := gb232) (o := .cells #[.int .i64 t230, .int .i64 t231] 23 (0, 0)) (bk_ BK232.out) hb)
                                have n1_ := Aside0.mk (blk_below (g := gb236) (o := .cells #[.int .i64 t233, .int .i64 t234] 23 (0, 0)) (bk_ BK236.out) hb)
                                have n2_ := Aside0.mk (blk_below (g := gb240) (o := .cells #[.int .i64 t237, .int .i64 t238] 23 (0, 0)) (bk_ BK240.out) hb)
                                have n3_ := Aside0.mk (below_step HB_ hb)
                                clear BK232
                                clear BK236
                                clear BK240
                                clear HB
                                have BK232 := n0_
                                have BK236 := n1_
                                have BK240 := n2_
                                have HB := n3_
                                clear n0_ n1_ n2_ n3_
                                (try clear hb)
                                (try clear hb2)
                                (try clear hk)
                                (try clear hi)
                                refine hK.out _ _ ⟨(blk_cell BK232.out 0).trans rfl, (blk_cell BK232.out 1).trans rfl, (blk_cell BK236.out 0).trans rfl, (blk_cell BK236.out 1).trans rfl⟩ (fun hHeld => ?_)
                                clear hK K
                                refine norm_ (a' := ?_) ?_ ?_
                                rotate_left
                                · show Act.put _ (some 61) _ = _
                                  simp only [Act.put, List.setIfInBounds_toArray, List.set_cons_zero, List.set_cons_succ, i64_w, i32_w]
                                  rfl
                                refine pure_ (i := 47) (N := some 62) (v := ?_) (a' := ?_) #[true, true, true, true, true, true, true, true, true, true, true, true, true, true, true, true, true, true, true, true, true, true, true, true, true, true, true, true, true, true, true, true, true, true, true, true, true, true, true, true, true, true, true, true, true, true, true, true, false, false, false, false, false, false, false, false, false, false, false, false, false, false, false, false, false, false, false, false, false, false, false, false, false, false, false, false, false, false, false, false, false, false, false, false, false] rfl rfl (any_of HT_.out (by kernel_rfl)) (fun _ _ _ h => h) (Or.inl ⟨by rfl, ?_⟩) ?_ ?_
                                rotate_left
                                · intro w'
                                  go_simp
                                  with_reducible rfl
                                rotate_left
                                · exact AP_
                                refine pure_ (i := 48) (N := some 63) (v := ?_) (a' := ?_) #[true, true, true, true, true, true, true, true, true, true, true, true, true, true, true, true, true, true, true, true, true, true, true, true, true, true, true, true, true, true, true, true, true, true, true, true, true, true, true, true, true, true, true, true, true, true, true, true, true, false, false, false, false, false, false, false, false, false, false, false, false, false, false, false, false, false, false, false, false, false, false, false, false, false, false, false, false, false, false, false, false, false, false, false, false] rfl rfl (any_of HT_.out (by kernel_rfl)) (fun _ _ _ h => h) (Or.inl ⟨by rfl, ?_⟩) ?_ ?_
                                rotate_left
                                · intro w'
                                  go_simp
                                  with_reducible rfl
                                rotate_left
                                · exact AP_
                                refine take_ (i := 49) (N := some 64) (v := ?_) (a' := ?_) #[true, true, true, true, true, true, true, true, true, true, true, true, true, true, true, true, true, true, true, true, true, true, true, true, true, true, true, true, true, true, true, true, true, true, true, true, true, true, true, true, true, true, true, true, true, true, true, true, true, true, false, false, false, false, false, false, false, false, false, false, false, false, false, false, false, false, false, false, false, false, false, false, false, false, false, false, false, false, false, false, false, false, false, false, false] rfl rfl (take_ofW HT_.out HW_.out (by kernel_rfl)) (fun _ _ _ h => h) (Or.inl ⟨by rfl, ?_⟩) hHeld ?_ ?_
                                rotate_left
                                · rintro w' ⟨s0, s1, s2, s3⟩
                                  go_simp
                                  with_reducible rfl
                                rotate_left
                                · exact AP_
                                refine take_ (i := 50) (N := some 65) (v := ?_) (a' := ?_) #[true, true, true, true, true, true, true, true, true, true, true, true, true, true, true, true, true, true, true, true, true, true, true, true, true, true, true, true, true, true, true, true, true, true, true, true, true, true, true, true, true, true, true, true, true, true, true, true, true, true, true, false, false, false, false, false, false, false, false, false, false, false, false, false, false, false, false, false, false, false, false, false, false, false, false, false, false, false, false, false, false, false, false, false, false] rfl rfl (take_ofW HT_.out HW_.out (by kernel_rfl)) (fun _ _ _ h => h) (Or.inl ⟨by rfl, ?_⟩) hHeld ?_ ?_
                                rotate_left
                                · rintro w' ⟨s0, s1, s2, s3⟩
                                  go_simp
                                  with_reducible rfl
                                rotate_left
                                · exact AP_
                                refine one_ (i := 51) (N := some 66) #[true, true, true, true, true, true, true, true, true, true, true, true, true, true, true, true, true, true, true, true, true, true, true, true, true, true, true, true, true, true, true, true, true, true, true, true, true, true, true, true, true, true, true, true, true, true, true, true, true, true, true, true, false, false, false, false, false, false, false, false, false, false, false, false, false, false, false, false, false, false, false, false, false, false, false, false, false, false, false, false, false, false, false, false, false] rfl rfl (one_of HT_.out (by kernel_rfl)) (by decide) (fun K hK => ?_)
                                refine goes_ Tryd.func21 (by kernel_rfl) rfl #[.agg #[.int .i64 t230, .int .i64 t231], .agg #[.int .i64 t233, .int .i64 t234]] (by rfl) rfl rfl MP_ ?_
                                with_reducible refine (itv_Meet.calls t230 t231 t233 t234 t259 t260 _ A25.out).mono ?_
                                rintro e w67 ⟨rfl, hb⟩
                                refine ⟨_, rfl, ?_⟩
                                have n0_ := Aside0.mk (blk_below (g := gb232) (o := .cells #[.int .i64 t230, .int .i64 t231] 23 (0, 0)) (bk_ BK232.out) hb)
                                have n1_ := Aside0.mk (blk_below (g := gb236) (o := .cells #[.int .i64 t233, .int .i64 t234] 23 (0, 0)) (bk_ BK236.out) hb)
                                have n2_ := Aside0.mk (blk_below (g := gb240) (o := .cells #[.int .i64 t237, .int .i64 t238] 23 (0, 0)) (bk_ BK240.out) hb)
                                have n3_ := Aside0.mk (below_step HB_ hb)
                                clear BK232
                                clear BK236
                                clear BK240
                                clear HB
                                have BK232 := n0_
                                have BK236 := n1_
                                have BK240 := n2_
                                have HB := n3_
                                clear n0_ n1_ n2_ n3_
                                (try clear hb)
                                (try clear hb2)
                                (try clear hk)
                                (try clear hi)
                                refine hK.out _ _ ⟨(blk_cell BK232.out 0).trans rfl, (blk_cell BK232.out 1).trans rfl, (blk_cell BK236.out 0).trans rfl, (blk_cell BK236.out 1).trans rfl⟩ (fun hHeld => ?_)
                                clear hK K
                                refine norm_ (a' := ?_) ?_ ?_
                                rotate_left
                                · show Act.put _ (some 66) _ = _
                                  simp only [Act.put, List.setIfInBounds_toArray, List.set_cons_zero, List.set_cons_succ, i64_w, i32_w]
                                  rfl
                                refine one_ (i := 52) (N := some 67) #[true, true, true, true, true, true, true, true, true, true, true, true, true, true, true, true, true, true, true, true, true, true, true, true, true, true, true, true, true, true, true, true, true, true, true, true, true, true, true, true, true, true, true, true, true, true, true, true, true, true, true, true, true, false, false, false, false, false, false, false, false, false, false, false, false, false, false, false, false, false, false, false, false, false, false, false, false, false, false, false, false, false, false, false, false] rfl rfl (one_of HT_.out (by kernel_rfl)) (by decide) (fun K hK => ?_)
                                refine goes_ Tryd.func33 (by kernel_rfl) rfl #[] (by rfl) rfl rfl MP_ ?_
                                with_reducible refine (itv_None.calls  t261 t262 _ A26.out).mono ?_
                                rintro e w68 ⟨rfl, hb⟩
                                refine ⟨_, rfl, ?_⟩
                                have n0_ := Aside0.mk (blk_below (g := gb232) (o := .cells #[.int .i64 t230, .int .i64 t231] 23 (0, 0)) (bk_ BK232.out) hb)
                                have n1_ := Aside0.mk (blk_below (g := gb236) (o := .cells #[.int .i64 t233, .int .i64 t234] 23 (0, 0)) (bk_ BK236.out) hb)
                                have n2_ := Aside0.mk (blk_below (g := gb240) (o := .cells #[.int .i64 t237, .int .i64 t238] 23 (0, 0)) (bk_ BK240.out) hb)
                                have n3_ := Aside0.mk (below_step HB_ hb)
                                clear BK232
                                clear BK236
                                clear BK240
                                clear HB
                                have BK232 := n0_
                                have BK236 := n1_
                                have BK240 := n2_
                                have HB := n3_
                                clear n0_ n1_ n2_ n3_
                                (try clear hb)
                                (try clear hb2)
                                (try clear hk)
                                (try clear hi)
                                refine hK.out _ _ ⟨(blk_cell BK232.out 0).trans rfl, (blk_cell BK232.out 1).trans rfl, (blk_cell BK236.out 0).trans rfl, (blk_cell BK236.out 1).trans rfl⟩ (fun hHeld => ?_)
                                clear hK K
                                refine norm_ (a' := ?_) ?_ ?_
                                rotate_left
                                · show Act.put _ (some 67) _ = _
                                  simp only [Act.put, List.setIfInBounds_toArray, List.set_cons_zero, List.set_cons_succ, i64_w, i32_w]
                                  rfl
                                refine one_ (i := 53) (N := some 68) #[true, true, true, true, true, true, true, true, true, true, true, true, true, true, true, true, true, true, true, true, true, true, true, true, true, true, true, true, true, true, true, true, true, true, true, true, true, true, true, true, true, true, true, true, true, true, true, true, true, true, true, true, true, true, false, false, false, false, false, false, false, false, false, false, false, false, false, false, false, false, false, false, false, false, false, false, false, false, false, false, false, false, false, false, false] rfl rfl (one_of HT_.out (by kernel_rfl)) (by decide) (fun K hK => ?_)
                                refine goes_ Tryd.func18 (by kernel_rfl) rfl #[.agg #[.int .i64 t259, .int .i64 t260], .agg #[.int .i64 t261, .int .i64 t262]] (by rfl) rfl rfl MP_ ?_
                                with_reducible refine (itv_Same.calls t259 t260 t261 t262 true _ A27.out).mono ?_
                                rintro e w69 ⟨rfl, hb⟩
                                refine ⟨_, rfl, ?_⟩
                                have n0_ := Aside0.mk (blk_below (g := gb232) (o := .cells #[.int .i64 t230, .int .i64 t231] 23 (0, 0)) (bk_ BK232.out) hb)
                                have n1_ := Aside0.mk (blk_below (g := gb236) (o := .cells #[.int .i64 t233, .int .i64 t234] 23 (0, 0)) (bk_ BK236.out) hb)
                                have n2_ := Aside0.mk (blk_below (g := gb240) (o := .cells #[.int .i64 t237, .int .i64 t238] 23 (0, 0)) (bk_ BK240.out) hb)
                                have n3_ := Aside0.mk (below_step HB_ hb)
                                clear BK232
                                clear BK236
                                clear BK240
                                clear HB
                                have BK232 := n0_
                                have BK236 := n1_
                                have BK240 := n2_
                                have HB := n3_
                                clear n0_ n1_ n2_ n3_
                                (try clear hb)
                                (try clear hb2)
                                (try clear hk)
                                (try clear hi)
                                refine hK.out _ _ ⟨(blk_cell BK232.out 0).trans rfl, (blk_cell BK232.out 1).trans rfl, (blk_cell BK236.out 0).trans rfl, (blk_cell BK236.out 1).trans rfl⟩ (fun hHeld => ?_)
                                clear hK K
                                refine norm_ (a' := ?_) ?_ ?_
                                rotate_left
                                · show Act.put _ (some 68) _ = _
                                  simp only [Act.put, List.setIfInBounds_toArray, List.set_cons_zero, List.set_cons_succ, i64_w, i32_w]
                                  rfl
                                refine pure_ (i := 54) (N := some 69) (v := ?_) (a' := ?_) #[true, true, true, true, true, true, true, true, true, true, true, true, true, true, true, true, true, true, true, true, true, true, true, true, true, true, true, true, true, true, true, true, true, true, true, true, true, true, true, true, true, true, true, true, true, true, true, true, true, true, true, true, true, true, true, false, false, false, false, false, false, false, false, false, false, false, false, false, false, false, false, false, false, false, false, false, false, false, false, false, false, false, false, false, false] rfl rfl (any_of HT_.out (by kernel_rfl)) (fun _ _ _ h => h) (Or.inl ⟨by rfl, ?_⟩) ?_ ?_
                                rotate_left
                                · intro w'
                                  go_simp
                                  with_reducible rfl
                                rotate_left
                                · exact AP_
                                refine pure_ (i := 55) (N := some 70) (v := ?_) (a' := ?_) #[true, true, true, true, true, true, true, true, true, true, true, true, true, true, true, true, true, true, true, true, true, true, true, true, true, true, true, true, true, true, true, true, true, true, true, true, true, true, true, true, true, true, true, true, true, true, true, true, true, true, true, true, true, true, true, true, false, false, false, false, false, false, false, false, false, false, false, false, false, false, false, false, false, false, false, false, false, false, false, false, false, false, false, false, false] rfl rfl (any_of HT_.out (by kernel_rfl)) (fun _ _ _ h => h) (Or.inl ⟨by rfl, ?_⟩) ?_ ?_
                                rotate_left
                                · intro w'
                                  go_simp
                                  with_reducible rfl
                                rotate_left
                                · exact AP_
                                refine take_ (i := 56) (N := some 71) (v := ?_) (a' := ?_) #[true, true, true, true, true, true, true, true, true, true, true, true, true, true, true, true, true, true, true, true, true, true, true, true, true, true, true, true, true, true, true, true, true, true, true, true, true, true, true, true, true, true, true, true, true, true, true, true, true, true, true, true, true, true, true, true, true, false, false, false, false, false, false, false, false, false, false, false, false, false, false, false, false, false, false, false, false, false, false, false, false, false, false, false, false] rfl rfl (take_ofW HT_.out HW_.out (by kernel_rfl)) (fun _ _ _ h => h) (Or.inl ⟨by rfl, ?_⟩) hHeld ?_ ?_
                                rotate_left
                                · rintro w' ⟨s0, s1, s2, s3⟩
                                  go_simp
                                  with_reducible rfl
                                rotate_left
                                · exact AP_
                                refine take_ (i := 57) (N := some 72) (v := ?_) (a' := ?_) #[true, true, true, true, true, true, true, true, true, true, true, true, true, true, true, true, true, true, true, true, true, true, true, true, true, true, true, true, true, true, true, true, true, true, true, true, true, true, true, true, true, true, true, true, true, true, true, true, true, true, true, true, true, true, true, true, true, true, false, false, false, false, false, false, false, false, false, false, false, false, false, false, false, false, false, false, false, false, false, false, false, false, false, false, false] rfl rfl (take_ofW HT_.out HW_.out (by kernel_rfl)) (fun _ _ _ h => h) (Or.inl ⟨by rfl, ?_⟩) hHeld ?_ ?_
                                rotate_left
                                · rintro w' ⟨s0, s1, s2, s3⟩
                                  go_simp
                                  with_reducible rfl
                                rotate_left
                                · exact AP_
                                refine one_ (i := 58) (N := some 73) #[true, true, true, true, true, true, true, true, true, true, true, true, true, true, true, true, true, true, true, true, true, true, true, true, true, true, true, true, true, true, true, true, true, true, true, true, true, true, true, true, true, true, true, true, true, true, true, true, true, true, true, true, true, true, true, true, true, true, true, false, false, false, false, false, false, false, false, false, false, false, false, false, false, false, false, false, false, false, false, false, false, false, false, false, false] rfl rfl (one_of HT_.out (by kernel_rfl)) (by decide) (fun K hK => ?_)
                                refine goes_ Tryd.func19 (by kernel_rfl) rfl #[.agg #[.int .i64 t230, .int .i64 t231], .agg #[.int .i64 t233, .int .i64 t234]] (by rfl) rfl rfl MP_ ?_
                                with_reducible refine (itv_Join.calls t230 t231 t233 t234 t264 t265 _ A29.out).mono ?_
                                rintro e w70 ⟨rfl, hb⟩
                                refine ⟨_, rfl, ?_⟩
                                have n0_ := Aside0.mk (blk_below (g := gb232) (o := .cells #[.int .i64 t230, .int .i64 t231] 23 (0, 0)) (bk_ BK232.out) hb)
                                have n1_ := Aside0.mk (blk_below (g := gb236) (o := .cells #[.int .i64 t233, .int .i64 t234] 23 (0, 0)) (bk_ BK236.out) hb)
                                have n2_ := Aside0.mk (blk_below (g := gb240) (o := .cells #[.int .i64 t237, .int .i64 t238] 23 (0, 0)) (bk_ BK240.out) hb)
                                have n3_ := Aside0.mk (below_step HB_ hb)
                                clear BK232
                                clear BK236
                                clear BK240
                                clear HB
                                have BK232 := n0_
                                have BK236 := n1_
                                have BK240 := n2_
                                have HB := n3_
                                clear n0_ n1_ n2_ n3_
                                (try clear hb)
                                (try clear hb2)
                                (try clear hk)
                                (try clear hi)
                                refine hK.out _ _ ⟨(blk_cell BK232.out 0).trans rfl, (blk_cell BK232.out 1).trans rfl, (blk_cell BK236.out 0).trans rfl, (blk_cell BK236.out 1).trans rfl⟩ (fun hHeld => ?_)
                                clear hK K
                                refine norm_ (a' := ?_) ?_ ?_
                                rotate_left
                                · show Act.put _ (some 73) _ = _
                                  simp only [Act.put, List.setIfInBounds_toArray, List.set_cons_zero, List.set_cons_succ, i64_w, i32_w]
                                  rfl
                                refine one_ (i := 59) (N := some 74) #[true, true, true, true, true, true, true, true, true, true, true, true, true, true, true, true, true, true, true, true, true, true, true, true, true, true, true, true, true, true, true, true, true, true, true, true, true, true, true, true, true, true, true, true, true, true, true, true, true, true, true, true, true, true, true, true, true, true, true, true, false, false, false, false, false, false, false, false, false, false, false, false, false, false, false, false, false, false, false, false, false, false, false, false, false] rfl rfl (one_of HT_.out (by kernel_rfl)) (by decide) (fun K hK => ?_)
                                refine goes_ Tryd.func31 (by kernel_rfl) rfl #[] (by rfl) rfl rfl MP_ ?_
                                with_reducible refine (itv_All.calls  t266 t267 _ A30.out).mono ?_
                                rintro e w71 ⟨rfl, hb⟩
                                refine ⟨_, rfl, ?_⟩
                                have n0_ := Aside0.mk (blk_below (g := gb232) (o := .cells #[.int .i64 t230, .int .i64 t231] 23 (0, 0)) (bk_ BK232.out) hb)
                                have n1_ := Aside0.mk (blk_below (g := gb236) (o := .cells #[.int .i64 t233, .int .i64 t234] 23 (0, 0)) (bk_ BK236.out) hb)
                                have n2_ := Aside0.mk (blk_below (g := gb240) (o := .cells #[.int .i64 t237, .int .i64 t238] 23 (0, 0)) (bk_ BK240.out) hb)
                                have n3_ := Aside0.mk (below_step HB_ hb)
                                clear BK232
                                clear BK236
                                clear BK240
                                clear HB
                                have BK232 := n0_
                                have BK236 := n1_
                                have BK240 := n2_
                                have HB := n3_
                                clear n0_ n1_ n2_ n3_
                                (try clear hb)
                                (try clear hb2)
                                (try clear hk)
                                (try clear hi)
                                refine hK.out _ _ ⟨(blk_cell BK232.out 0).trans rfl, (blk_cell BK232.out 1).trans rfl, (blk_cell BK236.out 0).trans rfl, (blk_cell BK236.out 1).trans rfl⟩ (fun hHeld => ?_)
                                clear hK K
                                refine norm_ (a' := ?_) ?_ ?_
                                rotate_left
                                · show Act.put _ (some 74) _ = _
                                  simp only [Act.put, List.setIfInBounds_toArray, List.set_cons_zero, List.set_cons_succ, i64_w, i32_w]
                                  rfl
                                refine pure_ (i := 60) (N := some 75) (v := ?_) (a' := ?_) #[true, true, true, true, true, true, true, true, true, true, true, true, true, true, true, true, true, true, true, true, true, true, true, true, true, true, true, true, true, true, true, true, true, true, true, true, true, true, true, true, true, true, true, true, true, true, true, true, true, true, true, true, true, true, true, true, true, true, true, true, true, false, false, false, false, false, false, false, false, false, false, false, false, false, false, false, false, false, false, false, false, false, false, false, false] rfl rfl (any_of HT_.out (by kernel_rfl)) (fun _ _ _ h => h) (Or.inl ⟨by rfl, ?_⟩) ?_ ?_
                                rotate_left
                                · intro w'
                                  go_simp
                                  with_reducible rfl
                                rotate_left
                                · exact AP_
                                refine pure_ (i := 61) (N := some 76) (v := ?_) (a' := ?_) #[true, true, true, true, true, true, true, true, true, true, true, true, true, true, true, true, true, true, true, true, true, true, true, true, true, true, true, true, true, true, true, true, true, true, true, true, true, true, true, true, true, true, true, true, true, true, true, true, true, true, true, true, true, true, true, true, true, true, true, true, true, true, false, false, false, false, false, false, false, false, false, false, false, false, false, false, false, false, false, false, false, false, false, false, false] rfl rfl (any_of HT_.out (by kernel_rfl)) (fun _ _ _ h => h) (Or.inl ⟨by rfl, ?_⟩) ?_ ?_
                                rotate_left
                                · intro w'
                                  go_simp
                                  with_reducible rfl
                                rotate_left
                                · exact AP_
                                refine pure_ (i := 62) (N := some 77) (v := ?_) (a' := ?_) #[true, true, true, true, true, true, true, true, true, true, true, true, true, true, true, true, true, true, true, true, true, true, true, true, true, true, true, true, true, true, true, true, true, true, true, true, true, true, true, true, true, true, true, true, true, true, true, true, true, true, true, true, true, true, true, true, true, true, true, true, true, true, true, false, false, false, false, false, false, false, false, false, false, false, false, false, false, false, false, false, false, false, false, false, false] rfl rfl (any_of HT_.out (by kernel_rfl)) (fun _ _ _ h => h) (Or.inl ⟨by rfl, ?_⟩) ?_ ?_
                                rotate_left
                                · intro w'
                                  go_simp
                                  with_reducible rfl
                                rotate_left
                                · exact AP_
                                refine pure_ (i := 65) (N := some 80) (v := ?_) (a' := ?_) #[true, true, true, true, true, true, true, true, true, true, true, true, true, true, true, true, true, true, true, true, true, true, true, true, true, true, true, true, true, true, true, true, true, true, true, true, true, true, true, true, true, true, true, true, true, true, true, true, true, true, true, true, true, true, true, true, true, true, true, true, true, true, true, false, false, true, false, false, false, false, false, false, false, false, false, false, false, false, false, false, false, false, false, false, false] rfl rfl (any_of HT_.out (by kernel_rfl)) (fun _ _ _ h => h) (Or.inl ⟨by rfl, ?_⟩) ?_ ?_
                                rotate_left
                                · intro w'
                                  go_simp
                                  with_reducible rfl
                                rotate_left
                                · exact AP_
                                refine one_ (i := 63) (N := some 78) #[true, true, true, true, true, true, true, true, true, true, true, true, true, true, true, true, true, true, true, true, true, true, true, true, true, true, true, true, true, true, true, true, true, true, true, true, true, true, true, true, true, true, true, true, true, true, true, true, true, true, true, true, true, true, true, true, true, true, true, true, true, true, true, true, false, true, false, false, false, false, false, false, false, false, false, false, false, false, false, false, false, false, false, false, false] rfl rfl (one_of HT_.out (by kernel_rfl)) (by decide) (fun K hK => ?_)
                                refine goes_ Tryd.func9 (by kernel_rfl) rfl #[.int .i64 1, .int .i64 2] (by rfl) rfl rfl MP_ ?_
                                with_reducible refine (itv_Of.calls 1 2 t268 t269 _ A32.out).mono ?_
                                rintro e w72 ⟨rfl, hb⟩
                                refine ⟨_, rfl, ?_⟩
                                have n0_ := Aside0.mk (blk_below (g := gb232) (o := .cells #[.int .i64 t230, .int .i64 t231] 23 (0, 0)) (bk_ BK232.out) hb)
                                have n1_ := Aside0.mk (blk_below (g := gb236) (o := .cells #[.int .i64 t233, .int .i64 t234] 23 (0, 0)) (bk_ BK236.out) hb)
                                have n2_ := Aside0.mk (blk_below (g := gb240) (o := .cells #[.int .i64 t237, .int .i64 t238] 23 (0, 0)) (bk_ BK240.out) hb)
                                have n3_ := Aside0.mk (below_step HB_ hb)
                                clear BK232
                                clear BK236
                                clear BK240
                                clear HB
                                have BK232 := n0_
                                have BK236 := n1_
                                have BK240 := n2_
                                have HB := n3_
                                clear n0_ n1_ n2_ n3_
                                (try clear hb)
                                (try clear hb2)
                                (try clear hk)
                                (try clear hi)
                                refine hK.out _ _ ⟨(blk_cell BK232.out 0).trans rfl, (blk_cell BK232.out 1).trans rfl, (blk_cell BK236.out 0).trans rfl, (blk_cell BK236.out 1).trans rfl⟩ (fun hHeld => ?_)
                                clear hK K
                                refine norm_ (a' := ?_) ?_ ?_
                                rotate_left
                                · show Act.put _ (some 78) _ = _
                                  simp only [Act.put, List.setIfInBounds_toArray, List.set_cons_zero, List.set_cons_succ, i64_w, i32_w]
                                  rfl
                                refine one_ (i := 64) (N := some 79) #[true, true, true, true, true, true, true, true, true, true, true, true, true, true, true, true, true, true, true, true, true, true, true, true, true, true, true, true, true, true, true, true, true, true, true, true, true, true, true, true, true, true, true, true, true, true, true, true, true, true, true, true, true, true, true, true, true, true, true, true, true, true, true, true, true, true, false, false, false, false, false, false, false, false, false, false, false, false, false, false, false, false, false, false, false] rfl rfl (one_of HT_.out (by kernel_rfl)) (by decide) (fun K hK => ?_)
                                refine goes_ Tryd.func27 (by kernel_rfl) rfl #[.agg #[.int .i64 t268, .int .i64 t269]] (by rfl) rfl rfl MP_ ?_
                                with_reducible refine (itv_Neg.calls t268 t269 t270 t271 _ A33.out).mono ?_
                                rintro e w73 ⟨rfl, hb⟩
                                refine ⟨_, rfl, ?_⟩
                                have n0_ := Aside0.mk (blk_below (g := gb232) (o := .cells #[.int .i64 t230, .int .i64 t231] 23 (0, 0)) (bk_ BK232.out) hb)
                                have n1_ := Aside0.mk (blk_below (g := gb236) (o := .cells #[.int .i64 t233, .int .i64 t234] 23 (0, 0)) (bk_ BK236.out) hb)
                                have n2_ := Aside0.mk (blk_below (g := gb240) (o := .cells #[.int .i64 t237, .int .i64 t238] 23 (0, 0)) (bk_ BK240.out) hb)
                                have n3_ := Aside0.mk (below_step HB_ hb)
                                clear BK232
                                clear BK236
                                clear BK240
                                clear HB
                                have BK232 := n0_
                                have BK236 := n1_
                                have BK240 := n2_
                                have HB := n3_
                                clear n0_ n1_ n2_ n3_
                                (try clear hb)
                                (try clear hb2)
                                (try clear hk)
                                (try clear hi)
                                refine hK.out _ _ ⟨(blk_cell BK232.out 0).trans rfl, (blk_cell BK232.out 1).trans rfl, (blk_cell BK236.out 0).trans rfl, (blk_cell BK236.out 1).trans rfl⟩ (fun hHeld => ?_)
                                clear hK K
                                refine norm_ (a' := ?_) ?_ ?_
                                rotate_left
                                · show Act.put _ (some 79) _ = _
                                  simp only [Act.put, List.setIfInBounds_toArray, List.set_cons_zero, List.set_cons_succ, i64_w, i32_w]
                                  rfl
                                refine pure_ (i := 66) (N := some 81) (v := ?_) (a' := ?_) #[true, true, true, true, true, true, true, true, true, true, true, true, true, true, true, true, true, true, true, true, true, true, true, true, true, true, true, true, true, true, true, true, true, true, true, true, true, true, true, true, true, true, true, true, true, true, true, true, true, true, true, true, true, true, true, true, true, true, true, true, true, true, true, true, true, true, true, false, false, false, false, false, false, false, false, false, false, false, false, false, false, false, false, false, false] rfl rfl (any_of HT_.out (by kernel_rfl)) (fun _ _ _ h => h) (Or.inl ⟨by rfl, ?_⟩) ?_ ?_
                                rotate_left
                                · intro w'
                                  go_simp
                                  with_reducible rfl
                                rotate_left
                                · exact AP_
                                refine pure_ (i := 67) (N := some 82) (v := ?_) (a' := ?_) #[true, true, true, true, true, true, true, true, true, true, true, true, true, true, true, true, true, true, true, true, true, true, true, true, true, true, true, true, true, true, true, true, true, true, true, true, true, true, true, true, true, true, true, true, true, true, true, true, true, true, true, true, true, true, true, true, true, true, true, true, true, true, true, true, true, true, true, true, false, false, false, false, false, false, false, false, false, false, false, false, false, false, false, false, false] rfl rfl (any_of HT_.out (by kernel_rfl)) (fun _ _ _ h => h) (Or.inl ⟨by rfl, ?_⟩) ?_ ?_
                                rotate_left
                                · intro w'
                                  go_simp
                                  with_reducible rfl
                                rotate_left
                                · exact AP_
                                refine pure_ (i := 68) (N := some 83) (v := ?_) (a' := ?_) #[true, true, true, true, true, true, true, true, true, true, true, true, true, true, true, true, true, true, true, true, true, true, true, true, true, true, true, true, true, true, true, true, true, true, true, true, true, true, true, true, true, true, true, true, true, true, true, true, true, true, true, true, true, true, true, true, true, true, true, true, true, true, true, true, true, true, true, true, true, false, false, false, false, false, false, false, false, false, false, false, false, false, false, false, false] rfl rfl (any_of HT_.out (by kernel_rfl)) (fun _ _ _ h => h) (Or.inl ⟨by rfl, ?_⟩) ?_ ?_
                                rotate_left
                                · intro w'
                                  go_simp
                                  with_reducible rfl
                                rotate_left
                                · exact AP_
                                refine pure_ (i := 72) (N := some 87) (v := ?_) (a' := ?_) #[true, true, true, true, true, true, true, true, true, true, true, true, true, true, true, true, true, true, true, true, true, true, true, true, true, true, true, true, true, true, true, true, true, true, true, true, true, true, true, true, true, true, true, true, true, true, true, true, true, true, true, true, true, true, true, true, true, true, true, true, true, true, true, true, true, true, true, true, true, false, false, false, true, false, false, false, false, false, false, false, false, false, false, false, false] rfl rfl (any_of HT_.out (by kernel_rfl)) (fun _ _ _ h => h) (Or.inl ⟨by rfl, ?_⟩) ?_ ?_
                                rotate_left
                                · intro w'
                                  go_simp
                                  with_reducible rfl
                                rotate_left
                                · exact AP_
                                refine one_ (i := 69) (N := some 84) #[true, true, true, true, true, true, true, true, true, true, true, true, true, true, true, true, true, true, true, true, true, true, true, true, true, true, true, true, true, true, true, true, true, true, true, true, true, true, true, true, true, true, true, true, true, true, true, true, true, true, true, true, true, true, true, true, true, true, true, true, true, true, true, true, true, true, true, true, true, true, false, false, true, false, false, false, false, false, false, false, false, false, false, false, false] rfl rfl (one_of HT_.out (by kernel_rfl)) (by decide) (fun K hK => ?_)
                                refine goes_ Tryd.func9 (by kernel_rfl) rfl #[.int .i64 1, .int .i64 2] (by rfl) rfl rfl MP_ ?_
                                with_reducible refine (itv_Of.calls 1 2 t272 t273 _ A35.out).mono ?_
                                rintro e w74 ⟨rfl, hb⟩
                                refine ⟨_, rfl, ?_⟩
                                have n0_ := Aside0.mk (blk_below (g := gb232) (o := .cells #[.int .i64 t230, .int .i64 t231] 23 (0, 0)) (bk_ BK232.out) hb)
                                have n1_ := Aside0.mk (blk_below (g := gb236) (o := .cells #[.int .i64 t233, .int .i64 t234] 23 (0, 0)) (bk_ BK236.out) hb)
                                have n2_ := Aside0.mk (blk_below (g := gb240) (o := .cells #[.int .i64 t237, .int .i64 t238] 23 (0, 0)) (bk_ BK240.out) hb)
                                have n3_ := Aside0.mk (below_step HB_ hb)
                                clear BK232
                                clear BK236
                                clear BK240
                                clear HB
                                have BK232 := n0_
                                have BK236 := n1_
                                have BK240 := n2_
                                have HB := n3_
                                clear n0_ n1_ n2_ n3_
                                (try clear hb)
                                (try clear hb2)
                                (try clear hk)
                                (try clear hi)
                                refine hK.out _ _ ⟨(blk_cell BK232.out 0).trans rfl, (blk_cell BK232.out 1).trans rfl, (blk_cell BK236.out 0).trans rfl, (blk_cell BK236.out 1).trans rfl⟩ (fun hHeld => ?_)
                                clear hK K
                                refine norm_ (a' := ?_) ?_ ?_
                                rotate_left
                                · show Act.put _ (some 84) _ = _
                                  simp only [Act.put, List.setIfInBounds_toArray, List.set_cons_zero, List.set_cons_succ, i64_w, i32_w]
                                  rfl
                                refine one_ (i := 70) (N := some 85) #[true, true, true, true, true, true, true, true, true, true, true, true, true, true, true, true, true, true, true, true, true, true, true, true, true, true, true, true, true, true, true, true, true, true, true, true, true, true, true, true, true, true, true, true, true, true, true, true, true, true, true, true, true, true, true, true, true, true, true, true, true, true, true, true, true, true, true, true, true, true, true, false, true, false, false, false, false, false, false, false, false, false, false, false, false] rfl rfl (one_of HT_.out (by kernel_rfl)) (by decide) (fun K hK => ?_)
                                refine goes_ Tryd.func9 (by kernel_rfl) rfl #[.int .i64 3, .int .i64 5] (by rfl) rfl rfl MP_ ?_
                                with_reducible refine (itv_Of.calls 3 5 t274 t275 _ A36.out).mono ?_
                                rintro e w75 ⟨rfl, hb⟩
                                refine ⟨_, rfl, ?_⟩
                                have n0_ := Aside0.mk (blk_below (g := gb232) (o := .cells #[.int .i64 t230, .int .i64 t231] 23 (0, 0)) (bk_ BK232.out) hb)
                                have n1_ := Aside0.mk (blk_below (g := gb236) (o := .cells #[.int .i64 t233, .int .i64 t234] 23 (0, 0)) (bk_ BK236.out) hb)
                                have n2_ := Aside0.mk (blk_below (g := gb240) (o := .cells #[.int .i64 t237, .int .i64 t238] 23 (0, 0)) (bk_ BK240.out) hb)
                                have n3_ := Aside0.mk (below_step HB_ hb)
                                clear BK232
                                clear BK236
                                clear BK240
                                clear HB
                                have BK232 := n0_
                                have BK236 := n1_
                                have BK240 := n2_
                                have HB := n3_
                                clear n0_ n1_ n2_ n3_
                                (try clear hb)
                                (try clear hb2)
                                (try clear hk)
                                (try clear hi)
                                refine hK.out _ _ ⟨(blk_cell BK232.out 0).trans rfl, (blk_cell BK232.out 1).trans rfl, (blk_cell BK236.out 0).trans rfl, (blk_cell BK236.out 1).trans rfl⟩ (fun hHeld => ?_)
                                clear hK K
                                refine norm_ (a' := ?_) ?_ ?_
                                rotate_left
                                · show Act.put _ (some 85) _ = _
                                  simp only [Act.put, List.setIfInBounds_toArray, List.set_cons_zero, List.set_cons_succ, i64_w, i32_w]
                                  rfl
                                refine one_ (i := 71) (N := some 86) #[true, true, true, true, true, true, true, true, true, true, true, true, true, true, true, true, true, true, true, true, true, true, true, true, true, true, true, true, true, true, true, true, true, true, true, true, true, true, true, true, true, true, true, true, true, true, true, true, true, true, true, true, true, true, true, true, true, true, true, true, true, true, true, true, true, true, true, true, true, true, true, true, true, false, false, false, false, false, false, false, false, false, false, false, false] rfl rfl (one_of HT_.out (by kernel_rfl)) (by decide) (fun K hK => ?_)
                                refine goes_ Tryd.func25 (by kernel_rfl) rfl #[.agg #[.int .i64 t272, .int .i64 t273], .agg #[.int .i64 t274, .int .i64 t275]] (by rfl) rfl rfl MP_ ?_
                                with_reducible refine (itv_Plus.calls t272 t273 t274 t275 t276 t277 _ A37.out).mono ?_
                                rintro e w76 ⟨rfl, hb⟩
                                refine ⟨_, rfl, ?_⟩
                                have n0_ := Aside0.mk (blk_below (g := gb232) (o := .cells #[.int .i64 t230, .int .i64 t231] 23 (0, 0)) (bk_ BK232.out) hb)
                                have n1_ := Aside0.mk (blk_below (g := gb236) (o := .cells #[.int .i64 t233, .int .i64 t234] 23 (0, 0)) (bk_ BK236.out) hb)
                                have n2_ := Aside0.mk (blk_below (g := gb240) (o := .cells #[.int .i64 t237, .int .i64 t238] 23 (0, 0)) (bk_ BK240.out) hb)
                                have n3_ := Aside0.mk (below_step HB_ hb)
                                clear BK232
                                clear BK236
                                clear BK240
                                clear HB
                                have BK232 := n0_
                                have BK236 := n1_
                                have BK240 := n2_
                                have HB := n3_
                                clear n0_ n1_ n2_ n3_
                                (try clear hb)
                                (try clear hb2)
                                (try clear hk)
                                (try clear hi)
                                refine hK.out _ _ ⟨(blk_cell BK232.out 0).trans rfl, (blk_cell BK232.out 1).trans rfl, (blk_cell BK236.out 0).trans rfl, (blk_cell BK236.out 1).trans rfl⟩ (fun hHeld => ?_)
                                clear hK K
                                refine norm_ (a' := ?_) ?_ ?_
                                rotate_left
                                · show Act.put _ (some 86) _ = _
                                  simp only [Act.put, List.setIfInBounds_toArray, List.set_cons_zero, List.set_cons_succ, i64_w, i32_w]
                                  rfl
                                refine pure_ (i := 73) (N := some 88) (v := ?_) (a' := ?_) #[true, true, true, true, true, true, true, true, true, true, true, true, true, true, true, true, true, true, true, true, true, true, true, true, true, true, true, true, true, true, true, true, true, true, true, true, true, true, true, true, true, true, true, true, true, true, true, true, true, true, true, true, true, true, true, true, true, true, true, true, true, true, true, true, true, true, true, true, true, true, true, true, true, true, false, false, false, false, false, false, false, false, false, false, false] rfl rfl (any_of HT_.out (by kernel_rfl)) (fun _ _ _ h => h) (Or.inl ⟨by rfl, ?_⟩) ?_ ?_
                                rotate_left
                                · intro w'
                                  go_simp
                                  with_reducible rfl
                                rotate_left
                                · exact AP_
                                refine pure_ (i := 74) (N := some 89) (v := ?_) (a' := ?_) #[true, true, true, true, true, true, true, true, true, true, true, true, true, true, true, true, true, true, true, true, true, true, true, true, true, true, true, true, true, true, true, true, true, true, true, true, true, true, true, true, true, true, true, true, true, true, true, true, true, true, true, true, true, true, true, true, true, true, true, true, true, true, true, true, true, true, true, true, true, true, true, true, true, true, true, false, false, false, false, false, false, false, false, false, false] rfl rfl (any_of HT_.out (by kernel_rfl)) (fun _ _ _ h => h) (Or.inl ⟨by rfl, ?_⟩) ?_ ?_
                                rotate_left
                                · intro w'
                                  go_simp
                                  with_reducible rfl
                                rotate_left
                                · exact AP_
                                refine pure_ (i := 75) (N := some 90) (v := ?_) (a' := ?_) #[true, true, true, true, true, true, true, true, true, true, true, true, true, true, true, true, true, true, true, true, true, true, true, true, true, true, true, true, true, true, true, true, true, true, true, true, true, true, true, true, true, true, true, true, true, true, true, true, true, true, true, true, true, true, true, true, true, true, true, true, true, true, true, true, true, true, true, true, true, true, true, true, true, true, true, true, false, false, false, false, false, false, false, false, false] rfl rfl (any_of HT_.out (by kernel_rfl)) (fun _ _ _ h => h) (Or.inl ⟨by rfl, ?_⟩) ?_ ?_
                                rotate_left
                                · intro w'
                                  go_simp
                                  with_reducible rfl
                                rotate_left
                                · exact AP_
                                refine take_ (i := 76) (N := some 91) (v := ?_) (a' := ?_) #[true, true, true, true, true, true, true, true, true, true, true, true, true, true, true, true, true, true, true, true, true, true, true, true, true, true, true, true, true, true, true, true, true, true, true, true, true, true, true, true, true, true, true, true, true, true, true, true, true, true, true, true, true, true, true, true, true, true, true, true, true, true, true, true, true, true, true, true, true, true, true, true, true, true, true, true, true, false, false, false, false, false, false, false, false] rfl rfl (take_ofW HT_.out HW_.out (by kernel_rfl)) (fun _ _ _ h => h) (Or.inl ⟨by rfl, ?_⟩) hHeld ?_ ?_
                                rotate_left
                                · rintro w' ⟨s0, s1, s2, s3⟩
                                  go_simp
                                  with_reducible rfl
                                rotate_left
                                · exact AP_
                                refine one_ (i := 77) (N := some 92) #[true, true, true, true, true, true, true, true, true, true, true, true, true, true, true, true, true, true, true, true, true, true, true, true, true, true, true, true, true, true, true, true, true, true, true, true, true, true, true, true, true, true, true, true, true, true, true, true, true, true, true, true, true, true, true, true, true, true, true, true, true, true, true, true, true, true, true, true, true, true, true, true, true, true, true, true, true, true, false, false, false, false, false, false, false] rfl rfl (one_of HT_.out (by kernel_rfl)) (by decide) (fun K hK => ?_)
                                refine goes_ Tryd.func11 (by kernel_rfl) rfl #[.agg #[.int .i64 t230, .int .i64 t231]] (by rfl) rfl rfl MP_ ?_
                                with_reducible refine (itv_Is.calls t230 t231 true _ A39.out).mono ?_
                                rintro e w77 ⟨rfl, hb⟩
                                refine ⟨_, rfl, ?_⟩
                                have n0_ := Aside0.mk (blk_below (g := gb232) (o := .cells #[.int .i64 t230, .int .i64 t231] 23 (0, 0)) (bk_ BK232.out) hb)
                                have n1_ := Aside0.mk (blk_below (g := gb236) (o := .cells #[.int .i64 t233, .int .i64 t234] 23 (0, 0)) (bk_ BK236.out) hb)
                                have n2_ := Aside0.mk (blk_below (g := gb240) (o := .cells #[.int .i64 t237, .int .i64 t238] 23 (0, 0)) (bk_ BK240.out) hb)
                                have n3_ := Aside0.mk (below_step HB_ hb)
                                clear BK232
                                clear BK236
                                clear BK240
                                clear HB
                                have BK232 := n0_
                                have BK236 := n1_
                                have BK240 := n2_
                                have HB := n3_
                                clear n0_ n1_ n2_ n3_
                                (try clear hb)
                                (try clear hb2)
                                (try clear hk)
                                (try clear hi)
                                refine hK.out _ _ ⟨(blk_cell BK232.out 0).trans rfl, (blk_cell BK232.out 1).trans rfl, (blk_cell BK236.out 0).trans rfl, (blk_cell BK236.out 1).trans rfl⟩ (fun hHeld => ?_)
                                clear hK K
                                refine norm_ (a' := ?_) ?_ ?_
                                rotate_left
                                · show Act.put _ (some 92) _ = _
                                  simp only [Act.put, List.setIfInBounds_toArray, List.set_cons_zero, List.set_cons_succ, i64_w, i32_w]
                                  rfl
                                refine pure_ (i := 78) (N := some 93) (v := ?_) (a' := ?_) #[true, true, true, true, true, true, true, true, true, true, true, true, true, true, true, true, true, true, true, true, true, true, true, true, true, true, true, true, true, true, true, true, true, true, true, true, true, true, true, true, true, true, true, true, true, true, true, true, true, true, true, true, true, true, true, true, true, true, true, true, true, true, true, true, true, true, true, true, true, true, true, true, true, true, true, true, true, true, true, false, false, false, false, false, false] rfl rfl (any_of HT_.out (by kernel_rfl)) (fun _ _ _ h => h) (Or.inl ⟨by rfl, ?_⟩) ?_ ?_
                                rotate_left
                                · intro w'
                                  go_simp
                                  with_reducible rfl
                                rotate_left
                                · exact AP_
                                refine pure_ (i := 79) (N := some 94) (v := ?_) (a' := ?_) #[true, true, true, true, true, true, true, true, true, true, true, true, true, true, true, true, true, true, true, true, true, true, true, true, true, true, true, true, true, true, true, true, true, true, true, true, true, true, true, true, true, true, true, true, true, true, true, true, true, true, true, true, true, true, true, true, true, true, true, true, true, true, true, true, true, true, true, true, true, true, true, true, true, true, true, true, true, true, true, true, false, false, false, false, false] rfl rfl (any_of HT_.out (by kernel_rfl)) (fun _ _ _ h => h) (Or.inl ⟨by rfl, ?_⟩) ?_ ?_
                                rotate_left
                                · intro w'
                                  go_simp
                                  with_reducible rfl
                                rotate_left
                                · exact AP_
                                refine pure_ (i := 80) (N := some 95) (v := ?_) (a' := ?_) #[true, true, true, true, true, true, true, true, true, true, true, true, true, true, true, true, true, true, true, true, true, true, true, true, true, true, true, true, true, true, true, true, true, true, true, true, true, true, true, true, true, true, true, true, true, true, true, true, true, true, true, true, true, true, true, true, true, true, true, true, true, true, true, true, true, true, true, true, true, true, true, true, true, true, true, true, true, true, true, true, true, false, false, false, false] rfl rfl (any_of HT_.out (by kernel_rfl)) (fun _ _ _ h => h) (Or.inl ⟨by rfl, ?_⟩) ?_ ?_
                                rotate_left
                                · intro w'
                                  go_simp
                                  with_reducible rfl
                                rotate_left
                                · exact AP_
                                refine one_ (i := 81) (N := some 96) #[true, true, true, true, true, true, true, true, true, true, true, true, true, true, true, true, true, true, true, true, true, true, true, true, true, true, true, true, true, true, true, true, true, true, true, true, true, true, true, true, true, true, true, true, true, true, true, true, true, true, true, true, true, true, true, true, true, true, true, true, true, true, true, true, true, true, true, true, true, true, true, true, true, true, true, true, true, true, true, true, true, true, false, false, false] rfl rfl (one_of HT_.out (by kernel_rfl)) (by decide) (fun K hK => ?_)
                                refine goes_ Tryd.func11 (by kernel_rfl) rfl #[.agg #[.int .i64 3, .int .i64 0]] (by rfl) rfl rfl MP_ ?_
                                with_reducible refine (itv_Is.calls 3 0 t279 _ A41.out).mono ?_
                                rintro e w78 ⟨rfl, hb⟩
                                refine ⟨_, rfl, ?_⟩
                                have n0_ := Aside0.mk (blk_below (g := gb232) (o := .cells #[.int .i64 t230, .int .i64 t231] 23 (0, 0)) (bk_ BK232.out) hb)
                                have n1_ := Aside0.mk (blk_below (g := gb236) (o := .cells #[.int .i64 t233, .int .i64 t234] 23 (0, 0)) (bk_ BK236.out) hb)
                                have n2_ := Aside0.mk (blk_below (g := gb240) (o := .cells #[.int .i64 t237, .int .i64 t238] 23 (0, 0)) (bk_ BK240.out) hb)
                                have n3_ := Aside0.mk (below_step HB_ hb)
                                clear BK232
                                clear BK236
                                clear BK240
                                clear HB
                                have BK232 := n0_
                                have BK236 := n1_
                                have BK240 := n2_
                                have HB := n3_
                                clear n0_ n1_ n2_ n3_
                                (try clear hb)
                                (try clear hb2)
                                (try clear hk)
                                (try clear hi)
                                refine hK.out _ _ ⟨(blk_cell BK232.out 0).trans rfl, (blk_cell BK232.out 1).trans rfl, (blk_cell BK236.out 0).trans rfl, (blk_cell BK236.out 1).trans rfl⟩ (fun hHeld => ?_)
                                clear hK K
                                refine norm_ (a' := ?_) ?_ ?_
                                rotate_left
                                · show Act.put _ (some 96) _ = _
                                  simp only [Act.put, List.setIfInBounds_toArray, List.set_cons_zero, List.set_cons_succ, i64_w, i32_w]
                                  rfl
                                refine pure_ (i := 82) (N := some 97) (v := ?_) (a' := ?_) #[true, true, true, true, true, true, true, true, true, true, true, true, true, true, true, true, true, true, true, true, true, true, true, true, true, true, true, true, true, true, true, true, true, true, true, true, true, true, true, true, true, true, true, true, true, true, true, true, true, true, true, true, true, true, true, true, true, true, true, true, true, true, true, true, true, true, true, true, true, true, true, true, true, true, true, true, true, true, true, true, true, true, true, false, false] rfl rfl (any_of HT_.out (by kernel_rfl)) (fun _ _ _ h => h) (Or.inl ⟨by rfl, ?_⟩) ?_ ?_
                                rotate_left
                                · intro w'
                                  go_simp
                                  with_reducible rfl
                                rotate_left
                                · exact AP_
                                refine pure_ (i := 83) (N := some 98) (v := ?_) (a' := ?_) #[true, true, true, true, true, true, true, true, true, true, true, true, true, true, true, true, true, true, true, true, true, true, true, true, true, true, true, true, true, true, true, true, true, true, true, true, true, true, true, true, true, true, true, true, true, true, true, true, true, true, true, true, true, true, true, true, true, true, true, true, true, true, true, true, true, true, true, true, true, true, true, true, true, true, true, true, true, true, true, true, true, true, true, true, false] rfl rfl (any_of HT_.out (by kernel_rfl)) (fun _ _ _ h => h) (Or.inl ⟨by rfl, ?_⟩) ?_ ?_
                                rotate_left
                                · intro w'
                                  go_simp
                                  with_reducible rfl
                                rotate_left
                                · exact AP_
                                refine pure_ (i := 84) (N := some 0) (v := ?_) (a' := ?_) #[true, true, true, true, true, true, true, true, true, true, true, true, true, true, true, true, true, true, true, true, true, true, true, true, true, true, true, true, true, true, true, true, true, true, true, true, true, true, true, true, true, true, true, true, true, true, true, true, true, true, true, true, true, true, true, true, true, true, true, true, true, true, true, true, true, true, true, true, true, true, true, true, true, true, true, true, true, true, true, true, true, true, true, true, true] rfl rfl (any_of HT_.out (by kernel_rfl)) (fun _ _ _ h => h) (Or.inl ⟨by rfl, ?_⟩) ?_ ?_
                                rotate_left
                                · intro w'
                                  go_simp
                                  with_reducible rfl
                                rotate_left
                                · exact AP_
                                refine done_ (done_of HT_.out (by kernel_rfl)) ?_
                                try go_wp2
                                go_ret
                                exact ⟨by first | rfl | (simp [errW_none, errW_some] <;> rfl) | (simp [*, errW_none, errW_some] <;> rfl), by repeat (first | (with_reducible first | exact HB.out | apply below_alloc | apply pw_below_drewN | apply below_drew1 | refine below_set ?_ GE232.out | refine below_set ?_ GE236.out | refine below_set ?_ GE240.out) | exact HB.out)⟩
                              · replace c40 := Bool.eq_false_iff.mpr c40
                                subst c40
                                have H1 : (none) = some r := by rw [if_neg (show ¬ (false = true) by decide)] at H; exact H
                                clear H
                                have H := H1
                                clear H1
                                exact absurd H (by simp)
                            · rw [if_neg c38] at H
                              exact absurd H (by simp)
                          · rw [if_neg c34] at H
                            exact absurd H (by simp)
                        · rw [if_neg c31] at H
                          exact absurd H (by simp)
                      · replace c28 := Bool.eq_false_iff.mpr c28
                        subst c28
                        have H1 : (none) = some r := by rw [if_neg (show ¬ (false = true) by decide)] at H; exact H
                        clear H
                        have H := H1
                        clear H1
                        exact absurd H (by simp)
                    · replace c24 := Bool.eq_false_iff.mpr c24
                      subst c24
                      have H1 : (none) = some r := by rw [if_neg (show ¬ (false = true) by decide)] at H; exact H
                      clear H
                      have H := H1
                      clear H1
                      exact absurd H (by simp)
                  · replace c21 := Bool.eq_false_iff.mpr c21
                    subst c21
                    have H1 : (none) = some r := by rw [if_neg (show ¬ (false = true) by decide)] at H; exact H
                    clear H
                    have H := H1
                    clear H1
                    exact absurd H (by simp)
                · rw [if_neg c19] at H
                  exact absurd H (by simp)
              · rw [if_neg c16] at H
                exact absurd H (by simp)
            · rw [if_neg c14] at H
              exact absurd H (by simp)
          · rw [if_neg c13] at H
            exact absurd H (by simp)
        · rw [if_neg c12] at H
          exact absurd H (by simp)
      · rw [if_neg c11] at H
        exact absurd H (by simp)
    · rw [if_neg c7] at H
      exact absurd H (by simp)
  · rw [if_neg c4] at H
    exact absurd H (by simp)

end Go.Proofs.YtkailfmehmgolaaDoor.R
