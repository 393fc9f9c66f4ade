-- WRITTEN BY this session's program wip/ext.py, in print.py's manner
import Derived.Test.YtgbndakiiblhmaaFx0
import Derived.Test.YtgbndakiiblhmaaFx2
import Derived.Test.YtgbndakiiblhmaaFx9
import Derived.Test.YtgbndakiiblhmaaFx13
import Derived.Test.YtgbndakiiblhmaaFx16
import Derived.Test.YtgbndakiiblhmaaFx17
import Derived.Test.YtgbndakiiblhmaaFx18
import Derived.Test.YtgbndakiiblhmaaFx22
namespace Go.Proofs.Ytgbndakiiblhmaa.F
open Go.RowKit Go.Proofs.YtgbndakiiblhmaaW.PrintWords Go.Proofs.YtgbndakiiblhmaaW.PrintLast Go.Proofs.YtgbndakiiblhmaaW.PrintMore
attribute [local go_sem] max2_int min2_int max_two min_two max_three min_three max_four min_four   -- for this text's walks alone
set_option linter.unusedVariables false
set_option linter.unusedSimpArgs false

/-! ### warrantorlaw08_DbmChecks_v1: function 8 -/
mutual
def warrantorlaw08_DbmChecks_v1.j0 : Nat → List Int → Int → Int → Bool → Int → List Int → Int → List Int → Option (Bool)
  | 0, _, _, _, _, _, _, _, _ => none
  | k + 1, x2, x3, x4, x29, x383000, x383001, x384000, x384001 => if x29 = true then ((warrantorlaw08_lives.f k).bind fun t386 => (some t386)) else ((dbm_Bound.f k x383000 x383001 x3 x4).bind fun bt387 => ((dbm_Point.f k x383000 x383001 x4).bind fun bt389 => ((warrantorref08_Check.f k x383000 x383001).bind fun t393 => ((warrantorlaw08_lives.f k).bind fun t394 => (if t394 = true then ((dbm_Check.f k x383000 x383001).bind fun t395 => (if ((t395 == 0) != t393) = true then (none) else (if t393 = true then ((dbm_Same.f k x383000 x383001 x384000 x384001).bind fun t396 => ((warrantorref08_Same.f k x383000 x383001 x384000 x384001).bind fun t397 => (if (t396 != t397) = true then (none) else ((dbm_Empty.f k x383000 x383001).bind fun t398 => (if (t398 != ((x383001.length : Int) == 0)) = true then (none) else ((dbm_Has.f k x383000 x383001 x2).bind fun t399 => ((warrantorref08_Has.f k x383000 x383001 x2).bind fun t400 => (if (t399 != t400) = true then (none) else (if (x383001.length : Int) > 0 then (if x4 ≥ 0 then (warrantorlaw08_DbmChecks_v1.j1 k x3 x4 bt387.1 bt387.2 bt389.1 bt389.2 (decide (x4 ≤ x383000)) x383000 x383001) else (warrantorlaw08_DbmChecks_v1.j1 k x3 x4 bt387.1 bt387.2 bt389.1 bt389.2 false x383000 x383001)) else (warrantorlaw08_DbmChecks_v1.j1 k x3 x4 bt387.1 bt387.2 bt389.1 bt389.2 false x383000 x383001)))))))))) else (none)))) else (none))))))
def warrantorlaw08_DbmChecks_v1.j1 : Nat → Int → Int → Int → Bool → List Int → Bool → Bool → Int → List Int → Option (Bool)
  | 0, _, _, _, _, _, _, _, _, _ => none
  | k + 1, x3, x4, x11, x12, x13, x14, x16, x383000, x383001 => if (x14 != x16) = true then (none) else (if x16 = true then (if x3 ≥ 0 then (if (x12 != (decide (x3 ≤ x383000))) = true then (none) else (if x12 = true then (if x14 = true then (warrantorlaw08_DbmChecks_v1.j2 k x3 x4 x11 x12 x13 false x383000 x383001) else (warrantorlaw08_DbmChecks_v1.j2 k x3 x4 x11 x12 x13 ((x13.length : Int) != 0) x383000 x383001)) else (if x11 = 0 then (if x14 = true then (warrantorlaw08_DbmChecks_v1.j2 k x3 x4 x11 x12 x13 false x383000 x383001) else (warrantorlaw08_DbmChecks_v1.j2 k x3 x4 x11 x12 x13 ((x13.length : Int) != 0) x383000 x383001)) else (none)))) else (if (x12 != false) = true then (none) else (if x12 = true then (if x14 = true then (warrantorlaw08_DbmChecks_v1.j2 k x3 x4 x11 x12 x13 false x383000 x383001) else (warrantorlaw08_DbmChecks_v1.j2 k x3 x4 x11 x12 x13 ((x13.length : Int) != 0) x383000 x383001)) else (if x11 = 0 then (if x14 = true then (warrantorlaw08_DbmChecks_v1.j2 k x3 x4 x11 x12 x13 false x383000 x383001) else (warrantorlaw08_DbmChecks_v1.j2 k x3 x4 x11 x12 x13 ((x13.length : Int) != 0) x383000 x383001)) else (none))))) else (none))
def warrantorlaw08_DbmChecks_v1.j2 : Nat → Int → Int → Int → Bool → List Int → Bool → Int → List Int → Option (Bool)
  | 0, _, _, _, _, _, _, _, _ => none
  | k + 1, x3, x4, x11, x12, x13, x148, x383000, x383001 => if x148 = true then (none) else (if x12 = true then (if 0 ≤ (wrap64 ((wrap64 (x3 * (wrap64 (x383000 + 1)))) + x4)) then (if (wrap64 ((wrap64 (x3 * (wrap64 (x383000 + 1)))) + x4)) < (x383001.length : Int) then (if x11 = (rd x383001 (wrap64 ((wrap64 (x3 * (wrap64 (x383000 + 1)))) + x4))) then (some ((x13.length : Int) == x383000)) else (none)) else (none)) else (none)) else (some true))
end
def warrantorlaw08_DbmChecks_v1.f (k : Nat) (a0_0 : Int) (l0_1 : List Int) (a1_0 : Int) (l1_1 : List Int) (l2 : List Int) (a3 : Int) (a4 : Int) : Option (Bool) := (warrantorref08_Large.f l0_1).bind fun t384 => (if t384 = true then (warrantorlaw08_DbmChecks_v1.j0 k l2 a3 a4 true a0_0 l0_1 a1_0 l1_1) else ((warrantorref08_Large.f l1_1).bind fun t385 => (if t385 = true then (warrantorlaw08_DbmChecks_v1.j0 k l2 a3 a4 true a0_0 l0_1 a1_0 l1_1) else (warrantorlaw08_DbmChecks_v1.j0 k l2 a3 a4 (decide ((l2.length : Int) > 20)) a0_0 l0_1 a1_0 l1_1))))
theorem warrantorlaw08_DbmChecks_v1.mono_l : ∀ k, (∀ y0 y1 y2 y3 y4 y5 y6 y7, LeO (warrantorlaw08_DbmChecks_v1.j0 k y0 y1 y2 y3 y4 y5 y6 y7) (warrantorlaw08_DbmChecks_v1.j0 (k + 1) y0 y1 y2 y3 y4 y5 y6 y7)) ∧ (∀ y0 y1 y2 y3 y4 y5 y6 y7 y8, LeO (warrantorlaw08_DbmChecks_v1.j1 k y0 y1 y2 y3 y4 y5 y6 y7 y8) (warrantorlaw08_DbmChecks_v1.j1 (k + 1) y0 y1 y2 y3 y4 y5 y6 y7 y8)) ∧ (∀ y0 y1 y2 y3 y4 y5 y6 y7, LeO (warrantorlaw08_DbmChecks_v1.j2 k y0 y1 y2 y3 y4 y5 y6 y7) (warrantorlaw08_DbmChecks_v1.j2 (k + 1) y0 y1 y2 y3 y4 y5 y6 y7))
  | 0 => ⟨fun _ _ _ _ _ _ _ _ r h => by simp [warrantorlaw08_DbmChecks_v1.j0] at h, fun _ _ _ _ _ _ _ _ _ r h => by simp [warrantorlaw08_DbmChecks_v1.j1] at h, fun _ _ _ _ _ _ _ _ r h => by simp [warrantorlaw08_DbmChecks_v1.j2] at h⟩
  | k + 1 => by
    obtain ⟨ih0, ih1, ih2⟩ := warrantorlaw08_DbmChecks_v1.mono_l k
    refine ⟨?_, ?_, ?_⟩
    · intro y0 y1 y2 y3 y4 y5 y6 y7
      unfold warrantorlaw08_DbmChecks_v1.j0
      repeat' first
      | (with_reducible exact ih0 _ _ _ _ _ _ _ _)
      | (with_reducible exact ih1 _ _ _ _ _ _ _ _ _)
      | (with_reducible exact ih2 _ _ _ _ _ _ _ _)
      | (with_reducible exact dbm_Bound.mono _ _ _ _ _)
      | (with_reducible exact dbm_Check.mono _ _ _)
      | (with_reducible exact dbm_Empty.mono _ _ _)
      | (with_reducible exact dbm_Has.mono _ _ _ _)
      | (with_reducible exact dbm_Point.mono _ _ _ _)
      | (with_reducible exact dbm_Same.mono _ _ _ _ _)
      | (with_reducible exact warrantorlaw08_lives.mono _)
      | (with_reducible exact warrantorref08_Check.mono _ _ _)
      | (with_reducible exact warrantorref08_Has.mono _ _ _ _)
      | (with_reducible exact warrantorref08_Same.mono _ _ _ _ _)
      | (with_reducible exact LeO.refl _)
      | (with_reducible exact LeO.none _)
      | (with_reducible refine LeO.ite ?_ ?_)
      | (with_reducible refine LeO.bind ?_ (fun _ => ?_))
      | exact ih0 _ _ _ _ _ _ _ _
      | exact ih1 _ _ _ _ _ _ _ _ _
      | exact ih2 _ _ _ _ _ _ _ _
      | exact dbm_Bound.mono _ _ _ _ _
      | exact dbm_Check.mono _ _ _
      | exact dbm_Empty.mono _ _ _
      | exact dbm_Has.mono _ _ _ _
      | exact dbm_Point.mono _ _ _ _
      | exact dbm_Same.mono _ _ _ _ _
      | exact warrantorlaw08_lives.mono _
      | exact warrantorref08_Check.mono _ _ _
      | exact warrantorref08_Has.mono _ _ _ _
      | exact warrantorref08_Same.mono _ _ _ _ _
      | exact LeO.none _
      | refine LeO.ite ?_ ?_
      | refine LeO.bind ?_ (fun _ => ?_)
    · intro y0 y1 y2 y3 y4 y5 y6 y7 y8
      unfold warrantorlaw08_DbmChecks_v1.j1
      repeat' first
      | (with_reducible exact ih0 _ _ _ _ _ _ _ _)
      | (with_reducible exact ih1 _ _ _ _ _ _ _ _ _)
      | (with_reducible exact ih2 _ _ _ _ _ _ _ _)
      | (with_reducible exact dbm_Bound.mono _ _ _ _ _)
      | (with_reducible exact dbm_Check.mono _ _ _)
      | (with_reducible exact dbm_Empty.mono _ _ _)
      | (with_reducible exact dbm_Has.mono _ _ _ _)
      | (with_reducible exact dbm_Point.mono _ _ _ _)
      | (with_reducible exact dbm_Same.mono _ _ _ _ _)
      | (with_reducible exact warrantorlaw08_lives.mono _)
      | (with_reducible exact warrantorref08_Check.mono _ _ _)
      | (with_reducible exact warrantorref08_Has.mono _ _ _ _)
      | (with_reducible exact warrantorref08_Same.mono _ _ _ _ _)
      | (with_reducible exact LeO.refl _)
      | (with_reducible exact LeO.none _)
      | (with_reducible refine LeO.ite ?_ ?_)
      | (with_reducible refine LeO.bind ?_ (fun _ => ?_))
      | exact ih0 _ _ _ _ _ _ _ _
      | exact ih1 _ _ _ _ _ _ _ _ _
      | exact ih2 _ _ _ _ _ _ _ _
      | exact dbm_Bound.mono _ _ _ _ _
      | exact dbm_Check.mono _ _ _
      | exact dbm_Empty.mono _ _ _
      | exact dbm_Has.mono _ _ _ _
      | exact dbm_Point.mono _ _ _ _
      | exact dbm_Same.mono _ _ _ _ _
      | exact warrantorlaw08_lives.mono _
      | exact warrantorref08_Check.mono _ _ _
      | exact warrantorref08_Has.mono _ _ _ _
      | exact warrantorref08_Same.mono _ _ _ _ _
      | exact LeO.none _
      | refine LeO.ite ?_ ?_
      | refine LeO.bind ?_ (fun _ => ?_)
    · intro y0 y1 y2 y3 y4 y5 y6 y7
      unfold warrantorlaw08_DbmChecks_v1.j2
      repeat' first
      | (with_reducible exact ih0 _ _ _ _ _ _ _ _)
      | (with_reducible exact ih1 _ _ _ _ _ _ _ _ _)
      | (with_reducible exact ih2 _ _ _ _ _ _ _ _)
      | (with_reducible exact dbm_Bound.mono _ _ _ _ _)
      | (with_reducible exact dbm_Check.mono _ _ _)
      | (with_reducible exact dbm_Empty.mono _ _ _)
      | (with_reducible exact dbm_Has.mono _ _ _ _)
      | (with_reducible exact dbm_Point.mono _ _ _ _)
      | (with_reducible exact dbm_Same.mono _ _ _ _ _)
      | (with_reducible exact warrantorlaw08_lives.mono _)
      | (with_reducible exact warrantorref08_Check.mono _ _ _)
      | (with_reducible exact warrantorref08_Has.mono _ _ _ _)
      | (with_reducible exact warrantorref08_Same.mono _ _ _ _ _)
      | (with_reducible exact LeO.refl _)
      | (with_reducible exact LeO.none _)
      | (with_reducible refine LeO.ite ?_ ?_)
      | (with_reducible refine LeO.bind ?_ (fun _ => ?_))
      | exact ih0 _ _ _ _ _ _ _ _
      | exact ih1 _ _ _ _ _ _ _ _ _
      | exact ih2 _ _ _ _ _ _ _ _
      | exact dbm_Bound.mono _ _ _ _ _
      | exact dbm_Check.mono _ _ _
      | exact dbm_Empty.mono _ _ _
      | exact dbm_Has.mono _ _ _ _
      | exact dbm_Point.mono _ _ _ _
      | exact dbm_Same.mono _ _ _ _ _
      | exact warrantorlaw08_lives.mono _
      | exact warrantorref08_Check.mono _ _ _
      | exact warrantorref08_Has.mono _ _ _ _
      | exact warrantorref08_Same.mono _ _ _ _ _
      | exact LeO.none _
      | refine LeO.ite ?_ ?_
      | refine LeO.bind ?_ (fun _ => ?_)
theorem warrantorlaw08_DbmChecks_v1.mono : ∀ a0 a1 a2 a3 a4 a5 a6 k, LeO (warrantorlaw08_DbmChecks_v1.f k a0 a1 a2 a3 a4 a5 a6) (warrantorlaw08_DbmChecks_v1.f (k + 1) a0 a1 a2 a3 a4 a5 a6) := by
  intro a0 a1 a2 a3 a4 a5 a6 k
  obtain ⟨ih0, ih1, ih2⟩ := warrantorlaw08_DbmChecks_v1.mono_l k
  unfold warrantorlaw08_DbmChecks_v1.f
  repeat' first
      | (with_reducible exact ih0 _ _ _ _ _ _ _ _)
      | (with_reducible exact ih1 _ _ _ _ _ _ _ _ _)
      | (with_reducible exact ih2 _ _ _ _ _ _ _ _)
      | (with_reducible exact dbm_Bound.mono _ _ _ _ _)
      | (with_reducible exact dbm_Check.mono _ _ _)
      | (with_reducible exact dbm_Empty.mono _ _ _)
      | (with_reducible exact dbm_Has.mono _ _ _ _)
      | (with_reducible exact dbm_Point.mono _ _ _ _)
      | (with_reducible exact dbm_Same.mono _ _ _ _ _)
      | (with_reducible exact warrantorlaw08_lives.mono _)
      | (with_reducible exact warrantorref08_Check.mono _ _ _)
      | (with_reducible exact warrantorref08_Has.mono _ _ _ _)
      | (with_reducible exact warrantorref08_Same.mono _ _ _ _ _)
      | (with_reducible exact LeO.refl _)
      | (with_reducible exact LeO.none _)
      | (with_reducible refine LeO.ite ?_ ?_)
      | (with_reducible refine LeO.bind ?_ (fun _ => ?_))
      | exact ih0 _ _ _ _ _ _ _ _
      | exact ih1 _ _ _ _ _ _ _ _ _
      | exact ih2 _ _ _ _ _ _ _ _
      | exact dbm_Bound.mono _ _ _ _ _
      | exact dbm_Check.mono _ _ _
      | exact dbm_Empty.mono _ _ _
      | exact dbm_Has.mono _ _ _ _
      | exact dbm_Point.mono _ _ _ _
      | exact dbm_Same.mono _ _ _ _ _
      | exact warrantorlaw08_lives.mono _
      | exact warrantorref08_Check.mono _ _ _
      | exact warrantorref08_Has.mono _ _ _ _
      | exact warrantorref08_Same.mono _ _ _ _ _
      | exact LeO.none _
      | refine LeO.ite ?_ ?_
      | refine LeO.bind ?_ (fun _ => ?_)
def warrantorlaw08_DbmChecks_v1.T6 : Bool × List (List Nat × List Nat) := (true, [([], []), ([0], [0]), ([1, 0], [1]), ([2], [2]), ([3, 2, 2], [2, 3]), ([4, 2], [2, 4]), ([2], [2]), ([5, 6, 2], [2, 5, 6]), ([2, 7], [2, 7]), ([8, 4], [8]), ([9], [9]), ([10, 9], [9, 10]), ([11, 9, 9], [9, 11]), ([12], [12]), ([13, 12, 12], [12, 13]), ([14, 12], [12, 14]), ([12, 15, 9], [9, 12, 15]), ([9, 16], [9, 16]), ([17, 14], [17]), ([18], [18]), ([18], [18]), ([19, 20, 18, 18], [18, 19, 20]), ([18], [18]), ([18], [18]), ([22, 23, 21, 18], [18, 22, 23]), ([21, 24, 18], [18, 21, 24]), ([18, 25], [18, 25]), ([26, 24], [26]), ([27], [27]), ([28, 27, 27], [27, 28]), ([27], [27]), ([30, 29, 27], [27, 30]), ([31], [31]), ([32, 31], [31, 32]), ([33, 31], [31, 33]), ([34, 31], [31, 34]), ([31, 35, 27], [27, 31, 35]), ([29, 36, 27], [27, 29, 36]), ([27, 37], [27, 37]), ([38, 31], [38]), ([39], [39]), ([39], [39]), ([40, 41, 39, 39], [39, 40, 41]), ([39], [39]), ([43, 42, 39], [39, 43]), ([44], [44]), ([44], [44]), ([45, 46, 44, 44], [44, 45, 46]), ([44, 47, 39], [39, 44, 47]), ([42, 48, 39], [39, 42, 48]), ([39, 49], [39, 49])])
def warrantorlaw08_DbmChecks_v1.B6 : List Nat := [0, 1, 3, 7, 15, 31, 7, 127, 255, 511, 1023, 2047, 4095, 8191, 16383, 32767, 65535, 131071, 262143, 524287, 524287, 2097151, 524287, 524287, 16777215, 33554431, 67108863, 134217727, 268435455, 536870911, 268435455, 2147483647, 4294967295, 8589934591, 17179869183, 34359738367, 68719476735, 137438953471, 274877906943, 549755813887, 1099511627775, 1099511627775, 4398046511103, 1099511627775, 17592186044415, 35184372088831, 35184372088831, 140737488355327, 281474976710655, 562949953421311, 1125899906842623]
theorem warrantorlaw08_DbmChecks_v1.tab6 : rtab .any (opsOf Try.f8 6) = warrantorlaw08_DbmChecks_v1.T6 := by kernel_rfl
theorem warrantorlaw08_DbmChecks_v1.bits6 : waitsOk warrantorlaw08_DbmChecks_v1.T6.2 warrantorlaw08_DbmChecks_v1.B6 = true := by kernel_rfl
set_option maxHeartbeats 8000000 in
set_option maxRecDepth 100000 in
theorem warrantorlaw08_DbmChecks_v1.calls (k : Nat) (a0_0 : Int) (A0_1 : Option Addr) (c0_1 : Nat) (l0_1 : List Int) (a1_0 : Int) (A1_1 : Option Addr) (c1_1 : Nat) (l1_1 : List Int) (A2 : Option Addr) (c2 : Nat) (l2 : List Int) (a3 : Int) (a4 : Int) (r : Bool) (w : World) (hr0_1 : Kd.C (Kd.int .i64) w A0_1 l0_1.length l0_1) (hc0_1 : l0_1.length ≤ c0_1) (hr1_1 : Kd.C (Kd.int .i64) w A1_1 l1_1.length l1_1) (hc1_1 : l1_1.length ≤ c1_1) (hr2 : Kd.C (Kd.int .i64) w A2 l2.length l2) (hc2 : l2.length ≤ c2) (h : warrantorlaw08_DbmChecks_v1.f k a0_0 l0_1 a1_0 l1_1 l2 a3 a4 = some r) :
    Calls Try.prog 8 #[.agg #[.int .i64 a0_0, .slice A0_1 l0_1.length c0_1], .agg #[.int .i64 a1_0, .slice A1_1 l1_1.length c1_1], .slice A2 l2.length c2, .int .i64 a3, .int .i64 a4] w fun e w' => e = .returned (.bool r) ∧ Below w.heap.size w w' := by
  have hu40 := Try.underlying40
  have HR0_1 := Aside0.mk hr0_1
  have HC0_1 := Aside0.mk hc0_1
  clear hr0_1 hc0_1
  have HR1_1 := Aside0.mk hr1_1
  have HC1_1 := Aside0.mk hc1_1
  clear hr1_1 hc1_1
  have HR2 := Aside0.mk hr2
  have HC2 := Aside0.mk hc2
  clear hr2 hc2
  have HB := Aside0.mk (Below.refl w.heap.size w)
  have H : ((warrantorref08_Large.f l0_1).bind fun t384 => (if t384 = true then (warrantorlaw08_DbmChecks_v1.j0 k l2 a3 a4 true a0_0 l0_1 a1_0 l1_1) else ((warrantorref08_Large.f l1_1).bind fun t385 => (if t385 = true then (warrantorlaw08_DbmChecks_v1.j0 k l2 a3 a4 true a0_0 l0_1 a1_0 l1_1) else (warrantorlaw08_DbmChecks_v1.j0 k l2 a3 a4 (decide ((l2.length : Int) > 20)) a0_0 l0_1 a1_0 l1_1))))) = some r := h
  clear h
  have HC6 := Aside0.mk H
  clear H
  go_enter Try.func8, Try.ntmps8
  go_upto_region 1 with (first | ((with_reducible refine gate_dst (N := 5) rfl ?_); (try (refine gate_guard (by rfl) ?_; dsimp only)); refine box_event ?hg (N := 5) ?hd (cs := #[.int .i64 a0_0, .slice A0_1 l0_1.length c0_1]) (t := 40) ?hr ?_; (case hd => rfl); (case hg => rfl); (case hr => first | (go_simp; done) | (go_simp; rfl)); intro gb382 hg w7 hbox hb; have n0_ := Aside0.mk (below_step HB_ hb); have n1_ := Aside0.mk (hbox); have n2_ := Aside0.mk ((by rw [hg]; exact (below_size HB_) : w.heap.size ≤ gb382)); have n3_ := Aside0.mk ((by rw [hg]; exact (below_size HB_) : w.heap.size ≤ gb382)); clear HB; have HB := n0_; have BK382 := n1_; have GW382 := n2_; have GE382 := n3_; clear n0_ n1_ n2_ n3_; clear hb hbox hg) | ((with_reducible refine gate_dst (N := 6) rfl ?_); (try (refine gate_guard (by rfl) ?_; dsimp only)); refine box_event ?hg (N := 6) ?hd (cs := #[.int .i64 a1_0, .slice A1_1 l1_1.length c1_1]) (t := 40) ?hr ?_; (case hd => rfl); (case hg => rfl); (case hr => first | (go_simp; done) | (go_simp; rfl)); intro gb383 hg w8 hbox hb; have n0_ := Aside0.mk (blk_below (g := gb382) (o := .cells #[.int .i64 a0_0, .slice A0_1 l0_1.length c0_1] 40 (0, 0)) (bk_ BK382.out) hb); have n1_ := Aside0.mk (below_step HB_ hb); have n2_ := Aside0.mk (hbox); have n3_ := Aside0.mk ((by rw [hg]; exact (below_size HB_) : w.heap.size ≤ gb383)); have n4_ := Aside0.mk ((by rw [hg]; exact (below_size HB_) : w.heap.size ≤ gb383)); have n5_ := Aside0.mk ((by rw [hg]; exact Nat.ne_of_lt (blk_lt (g := gb382) (o := .cells #[.int .i64 a0_0, .slice A0_1 l0_1.length c0_1] 40 (0, 0)) (bk_ BK382.out)) : gb382 ≠ gb383)); have n6_ := Aside0.mk ((by rw [hg]; exact Nat.ne_of_gt (blk_lt (g := gb382) (o := .cells #[.int .i64 a0_0, .slice A0_1 l0_1.length c0_1] 40 (0, 0)) (bk_ BK382.out)) : gb383 ≠ gb382)); clear BK382; clear HB; have BK382 := n0_; have HB := n1_; have BK383 := n2_; have GW383 := n3_; have GE383 := n4_; have NB382_383 := n5_; have NB383_382 := n6_; clear n0_ n1_ n2_ n3_ n4_ n5_ n6_; clear hb hbox hg))
  (try simp only [Act.put, List.setIfInBounds_toArray, List.set_cons_zero, List.set_cons_succ])
  go_cut [29] (fun v29 wc => ∃ (kq : Nat) (x29_5 : Bool), v29 = .bool x29_5 ∧ Aside0 (warrantorlaw08_DbmChecks_v1.j0 kq l2 a3 a4 x29_5 a0_0 l0_1 a1_0 l1_1 = some r) ∧ Aside0 (kq ≤ k) ∧ Aside0 (wc.heap[gb382]? = some (.cells #[.int .i64 a0_0, (.slice A0_1 l0_1.length c0_1)] 40 (0, 0))) ∧ Aside0 (wc.heap[gb383]? = some (.cells #[.int .i64 a1_0, (.slice A1_1 l1_1.length c1_1)] 40 (0, 0))) ∧ Aside0 (Below w.heap.size w wc))
  case first =>
    have H := HC6.out
    clear HC6
    replace H := Option.bind_eq_some_iff.mp H
    obtain ⟨t384, A90, H⟩ := H
    replace H : (if t384 = true then (warrantorlaw08_DbmChecks_v1.j0 k l2 a3 a4 true a0_0 l0_1 a1_0 l1_1) else ((warrantorref08_Large.f l1_1).bind fun t385 => (if t385 = true then (warrantorlaw08_DbmChecks_v1.j0 k l2 a3 a4 true a0_0 l0_1 a1_0 l1_1) else (warrantorlaw08_DbmChecks_v1.j0 k l2 a3 a4 (decide ((l2.length : Int) > 20)) a0_0 l0_1 a1_0 l1_1)))) = some r := H
    have A9 := Aside0.mk A90
    clear A90
    by_cases c10 : t384 = true
    · subst c10
      have H1 : (warrantorlaw08_DbmChecks_v1.j0 k l2 a3 a4 true a0_0 l0_1 a1_0 l1_1) = some r := by rw [if_pos rfl] at H; exact H
      clear H
      have H := H1
      clear H1
      have H' := Aside0.mk H
      clear H
      have hnb11 := NB382_383.out
      have hnc11 := NB383_382.out
      have hcz12_0 : w8.cell? ⟨gb382, 0, none⟩ = some (.int .i64 a0_0) := (blk_cell BK382.out 0).trans rfl
      have hcz12_1 : w8.cell? ⟨gb382, 1, none⟩ = some (.slice A0_1 l0_1.length c0_1) := (blk_cell BK382.out 1).trans rfl
      have hfz12_0 := blk_frozen BK382.out 0
      have hfz12_1 := blk_frozen BK382.out 1
      go_wp2_with (first | ((with_reducible refine gate_callee (f := 21) rfl ?_); refine goesL_ (some 19) rfl rfl Try.func21 (by kernel_rfl) rfl #[.slice A0_1 l0_1.length c0_1] rfl MP_ ?_; (with_reducible refine (warrantorref08_Large.calls _ _ l0_1 true _ ?side1 ?side2 A9.out).mono ?_); (case side1 => repeat (first | exact (Kd.C_below HR0_1.out HB.out) | (with_reducible refine Kd.C_alloc ?_ _) | (with_reducible refine Kd.C_drewN ?_ _) | (with_reducible refine Kd.C_drew ?_))); (case side2 => exact HC0_1.out); rintro e w' ⟨rfl, ⟨nd, rfl⟩⟩; refine ⟨_, rfl, ?_⟩))
      go_meet
      case rel => exact ⟨_, (true), (by first | rfl | (simp; done) | (simp [*]; done)), H', ⟨by first | omega | exact Nat.le_refl _⟩, ⟨by (with_reducible repeat (first | refine blk_drewN ?_ _ | refine blk_drew ?_ | refine blk_alloc ?_ _)); exact BK382.out⟩, ⟨by (with_reducible repeat (first | refine blk_drewN ?_ _ | refine blk_drew ?_ | refine blk_alloc ?_ _)); exact BK383.out⟩, ⟨HB_⟩⟩
    replace c10 := Bool.eq_false_iff.mpr c10
    subst c10
    have H1 : ((warrantorref08_Large.f l1_1).bind fun t385 => (if t385 = true then (warrantorlaw08_DbmChecks_v1.j0 k l2 a3 a4 true a0_0 l0_1 a1_0 l1_1) else (warrantorlaw08_DbmChecks_v1.j0 k l2 a3 a4 (decide ((l2.length : Int) > 20)) a0_0 l0_1 a1_0 l1_1))) = some r := by rw [if_neg (show ¬ (false = true) by decide)] at H; exact H
    clear H
    have H := H1
    clear H1
    replace H := Option.bind_eq_some_iff.mp H
    obtain ⟨t385, A130, H⟩ := H
    replace H : (if t385 = true then (warrantorlaw08_DbmChecks_v1.j0 k l2 a3 a4 true a0_0 l0_1 a1_0 l1_1) else (warrantorlaw08_DbmChecks_v1.j0 k l2 a3 a4 (decide ((l2.length : Int) > 20)) a0_0 l0_1 a1_0 l1_1)) = some r := H
    have A13 := Aside0.mk A130
    clear A130
    by_cases c14 : t385 = true
    · subst c14
      have H1 : (warrantorlaw08_DbmChecks_v1.j0 k l2 a3 a4 true a0_0 l0_1 a1_0 l1_1) = some r := by rw [if_pos rfl] at H; exact H
      clear H
      have H := H1
      clear H1
      have H' := Aside0.mk H
      clear H
      have hnb15 := NB382_383.out
      have hnc15 := NB383_382.out
      have hcz16_0 : w8.cell? ⟨gb382, 0, none⟩ = some (.int .i64 a0_0) := (blk_cell BK382.out 0).trans rfl
      have hcz16_1 : w8.cell? ⟨gb382, 1, none⟩ = some (.slice A0_1 l0_1.length c0_1) := (blk_cell BK382.out 1).trans rfl
      have hfz16_0 := blk_frozen BK382.out 0
      have hfz16_1 := blk_frozen BK382.out 1
      go_wp2_with (first | ((with_reducible refine gate_callee (f := 21) rfl ?_); refine goesL_ (some 19) rfl rfl Try.func21 (by kernel_rfl) rfl #[.slice A0_1 l0_1.length c0_1] rfl MP_ ?_; (with_reducible refine (warrantorref08_Large.calls _ _ l0_1 false _ ?side1 ?side2 A9.out).mono ?_); (case side1 => repeat (first | exact (Kd.C_below HR0_1.out HB.out) | (with_reducible refine Kd.C_alloc ?_ _) | (with_reducible refine Kd.C_drewN ?_ _) | (with_reducible refine Kd.C_drew ?_))); (case side2 => exact HC0_1.out); rintro e w' ⟨rfl, ⟨nd, rfl⟩⟩; refine ⟨_, rfl, ?_⟩; have hcz17_0 : w8.cell? ⟨gb383, 0, none⟩ = some (.int .i64 a1_0) := (blk_cell BK383.out 0).trans rfl; have hcz17_1 : w8.cell? ⟨gb383, 1, none⟩ = some (.slice A1_1 l1_1.length c1_1) := (blk_cell BK383.out 1).trans rfl; have hfz17_0 := blk_frozen BK383.out 0; have hfz17_1 := blk_frozen BK383.out 1; (try clear A9)) | (go_at_call 21; (with_reducible refine (warrantorref08_Large.calls _ _ l1_1 true _ ?side1 ?side2 A13.out).mono ?_); (case side1 => repeat (first | exact (Kd.C_below HR1_1.out HB_) | (with_reducible refine Kd.C_alloc ?_ _) | (with_reducible refine Kd.C_drewN ?_ _) | (with_reducible refine Kd.C_drew ?_))); (case side2 => exact HC1_1.out); rintro e w' ⟨rfl, ⟨nd, rfl⟩⟩))
      go_meet
      case rel => exact ⟨_, (true), (by first | rfl | (simp; done) | (simp [*]; done)), H', ⟨by first | omega | exact Nat.le_refl _⟩, ⟨by (with_reducible repeat (first | refine blk_drewN ?_ _ | refine blk_drew ?_ | refine blk_alloc ?_ _)); exact BK382.out⟩, ⟨by (with_reducible repeat (first | refine blk_drewN ?_ _ | refine blk_drew ?_ | refine blk_alloc ?_ _)); exact BK383.out⟩, ⟨HB_⟩⟩
    replace c14 := Bool.eq_false_iff.mpr c14
    subst c14
    have H1 : (warrantorlaw08_DbmChecks_v1.j0 k l2 a3 a4 (decide ((l2.length : Int) > 20)) a0_0 l0_1 a1_0 l1_1) = some r := by rw [if_neg (show ¬ (false = true) by decide)] at H; exact H
    clear H
    have H := H1
    clear H1
    have H' := Aside0.mk H
    clear H
    have hnb18 := NB382_383.out
    have hnc18 := NB383_382.out
    have hcz19_0 : w8.cell? ⟨gb382, 0, none⟩ = some (.int .i64 a0_0) := (blk_cell BK382.out 0).trans rfl
    have hcz19_1 : w8.cell? ⟨gb382, 1, none⟩ = some (.slice A0_1 l0_1.length c0_1) := (blk_cell BK382.out 1).trans rfl
    have hfz19_0 := blk_frozen BK382.out 0
    have hfz19_1 := blk_frozen BK382.out 1
    go_wp2_with (first | ((with_reducible refine gate_callee (f := 21) rfl ?_); refine goesL_ (some 19) rfl rfl Try.func21 (by kernel_rfl) rfl #[.slice A0_1 l0_1.length c0_1] rfl MP_ ?_; (with_reducible refine (warrantorref08_Large.calls _ _ l0_1 false _ ?side1 ?side2 A9.out).mono ?_); (case side1 => repeat (first | exact (Kd.C_below HR0_1.out HB.out) | (with_reducible refine Kd.C_alloc ?_ _) | (with_reducible refine Kd.C_drewN ?_ _) | (with_reducible refine Kd.C_drew ?_))); (case side2 => exact HC0_1.out); rintro e w' ⟨rfl, ⟨nd, rfl⟩⟩; refine ⟨_, rfl, ?_⟩; have hcz20_0 : w8.cell? ⟨gb383, 0, none⟩ = some (.int .i64 a1_0) := (blk_cell BK383.out 0).trans rfl; have hcz20_1 : w8.cell? ⟨gb383, 1, none⟩ = some (.slice A1_1 l1_1.length c1_1) := (blk_cell BK383.out 1).trans rfl; have hfz20_0 := blk_frozen BK383.out 0; have hfz20_1 := blk_frozen BK383.out 1; (try clear A9)) | (go_at_call 21; (with_reducible refine (warrantorref08_Large.calls _ _ l1_1 false _ ?side1 ?side2 A13.out).mono ?_); (case side1 => repeat (first | exact (Kd.C_below HR1_1.out HB_) | (with_reducible refine Kd.C_alloc ?_ _) | (with_reducible refine Kd.C_drewN ?_ _) | (with_reducible refine Kd.C_drew ?_))); (case side2 => exact HC1_1.out); rintro e w' ⟨rfl, ⟨nd, rfl⟩⟩))
    go_meet
    case rel => exact ⟨_, (decide ((l2.length : Int) > 20)), (by first | rfl | (simp; done) | (simp [*]; done)), H', ⟨by first | omega | exact Nat.le_refl _⟩, ⟨by (with_reducible repeat (first | refine blk_drewN ?_ _ | refine blk_drew ?_ | refine blk_alloc ?_ _)); exact BK382.out⟩, ⟨by (with_reducible repeat (first | refine blk_drewN ?_ _ | refine blk_drew ?_ | refine blk_alloc ?_ _)); exact BK383.out⟩, ⟨HB_⟩⟩
  case rest =>
    clear HC6
    try clear c1
    try clear c2
    try clear p2
    try clear c8
    try clear c10
    try clear c11
    try clear c14
    try clear c15
    try clear c18
    try clear hcz12_0
    try clear hcz12_1
    try clear hcz16_0
    try clear hcz16_1
    try clear hcz17_0
    try clear hcz17_1
    try clear hcz19_0
    try clear hcz19_1
    try clear hcz20_0
    try clear hcz20_1
    try clear hfz12_0
    try clear hfz12_1
    try clear hfz16_0
    try clear hfz16_1
    try clear hfz17_0
    try clear hfz17_1
    try clear hfz19_0
    try clear hfz19_1
    try clear hfz20_0
    try clear hfz20_1
    obtain ⟨kq, x29_5, rfl, HA, HJ5, BK382, BK383, HB⟩ := hcut
    cases kq with
    | zero => exact absurd HA.out (by simp [warrantorlaw08_DbmChecks_v1.j0])
    | succ kj5 =>
      have H := HA.out
      clear HA
      simp only [warrantorlaw08_DbmChecks_v1.j0] at H
      by_cases c21 : x29_5 = true
      · subst c21
        have H1 : ((warrantorlaw08_lives.f kj5).bind fun t386 => (some t386)) = some r := by rw [if_pos rfl] at H; exact H
        clear H
        have H := H1
        clear H1
        replace H := Option.bind_eq_some_iff.mp H
        obtain ⟨t386, A220, H⟩ := H
        replace H : (some t386) = some r := H
        have A22 := Aside0.mk A220
        clear A220
        obtain rfl := Option.some.inj H
        go_wp2_with (first | ((with_reducible refine gate_callee (f := 22) rfl ?_); refine goesL_ (some 30) rfl rfl Try.func22 (by kernel_rfl) rfl #[] rfl MP_ ?_; (with_reducible refine (warrantorlaw08_lives.calls kj5  t386 _ A22.out).mono ?_); rintro e w23 ⟨rfl, hb⟩; refine ⟨_, rfl, ?_⟩; have n0_ := Aside0.mk (blk_below (g := gb382) (o := .cells #[.int .i64 a0_0, .slice A0_1 l0_1.length c0_1] 40 (0, 0)) (bk_ BK382.out) hb); have n1_ := Aside0.mk (blk_below (g := gb383) (o := .cells #[.int .i64 a1_0, .slice A1_1 l1_1.length c1_1] 40 (0, 0)) (bk_ BK383.out) hb); have n2_ := Aside0.mk (below_step HB_ hb); clear BK382; clear BK383; clear HB; have BK382 := n0_; have BK383 := n1_; have HB := n2_; clear n0_ n1_ n2_; (try clear hb); (try clear hb2); (try clear hk); (try clear hi)))
        go_ret
        exact ⟨by first | rfl | (simp [errW_none, errW_some] <;> rfl) | (simp [*, errW_none, errW_some] <;> rfl), HB_⟩
      replace c21 := Bool.eq_false_iff.mpr c21
      subst c21
      have H1 : ((dbm_Bound.f kj5 a0_0 l0_1 a3 a4).bind fun bt387 => ((dbm_Point.f kj5 a0_0 l0_1 a4).bind fun bt389 => ((warrantorref08_Check.f kj5 a0_0 l0_1).bind fun t393 => ((warrantorlaw08_lives.f kj5).bind fun t394 => (if t394 = true then ((dbm_Check.f kj5 a0_0 l0_1).bind fun t395 => (if ((t395 == 0) != t393) = true then (none) else (if t393 = true then ((dbm_Same.f kj5 a0_0 l0_1 a1_0 l1_1).bind fun t396 => ((warrantorref08_Same.f kj5 a0_0 l0_1 a1_0 l1_1).bind fun t397 => (if (t396 != t397) = true then (none) else ((dbm_Empty.f kj5 a0_0 l0_1).bind fun t398 => (if (t398 != ((l0_1.length : Int) == 0)) = true then (none) else ((dbm_Has.f kj5 a0_0 l0_1 l2).bind fun t399 => ((warrantorref08_Has.f kj5 a0_0 l0_1 l2).bind fun t400 => (if (t399 != t400) = true then (none) else (if (l0_1.length : Int) > 0 then (if a4 ≥ 0 then (warrantorlaw08_DbmChecks_v1.j1 kj5 a3 a4 bt387.1 bt387.2 bt389.1 bt389.2 (decide (a4 ≤ a0_0)) a0_0 l0_1) else (warrantorlaw08_DbmChecks_v1.j1 kj5 a3 a4 bt387.1 bt387.2 bt389.1 bt389.2 false a0_0 l0_1)) else (warrantorlaw08_DbmChecks_v1.j1 kj5 a3 a4 bt387.1 bt387.2 bt389.1 bt389.2 false a0_0 l0_1)))))))))) else (none)))) else (none)))))) = some r := by rw [if_neg (show ¬ (false = true) by decide)] at H; exact H
      clear H
      have H := H1
      clear H1
      replace H := Option.bind_eq_some_iff.mp H
      obtain ⟨⟨t387, t388⟩, A240, H⟩ := H
      replace H : ((dbm_Point.f kj5 a0_0 l0_1 a4).bind fun bt389 => ((warrantorref08_Check.f kj5 a0_0 l0_1).bind fun t393 => ((warrantorlaw08_lives.f kj5).bind fun t394 => (if t394 = true then ((dbm_Check.f kj5 a0_0 l0_1).bind fun t395 => (if ((t395 == 0) != t393) = true then (none) else (if t393 = true then ((dbm_Same.f kj5 a0_0 l0_1 a1_0 l1_1).bind fun t396 => ((warrantorref08_Same.f kj5 a0_0 l0_1 a1_0 l1_1).bind fun t397 => (if (t396 != t397) = true then (none) else ((dbm_Empty.f kj5 a0_0 l0_1).bind fun t398 => (if (t398 != ((l0_1.length : Int) == 0)) = true then (none) else ((dbm_Has.f kj5 a0_0 l0_1 l2).bind fun t399 => ((warrantorref08_Has.f kj5 a0_0 l0_1 l2).bind fun t400 => (if (t399 != t400) = true then (none) else (if (l0_1.length : Int) > 0 then (if a4 ≥ 0 then (warrantorlaw08_DbmChecks_v1.j1 kj5 a3 a4 t387 t388 bt389.1 bt389.2 (decide (a4 ≤ a0_0)) a0_0 l0_1) else (warrantorlaw08_DbmChecks_v1.j1 kj5 a3 a4 t387 t388 bt389.1 bt389.2 false a0_0 l0_1)) else (warrantorlaw08_DbmChecks_v1.j1 kj5 a3 a4 t387 t388 bt389.1 bt389.2 false a0_0 l0_1)))))))))) else (none)))) else (none))))) = some r := H
      have A24 := Aside0.mk A240
      clear A240
      replace H := Option.bind_eq_some_iff.mp H
      obtain ⟨⟨t389, t392⟩, A250, H⟩ := H
      replace H : ((warrantorref08_Check.f kj5 a0_0 l0_1).bind fun t393 => ((warrantorlaw08_lives.f kj5).bind fun t394 => (if t394 = true then ((dbm_Check.f kj5 a0_0 l0_1).bind fun t395 => (if ((t395 == 0) != t393) = true then (none) else (if t393 = true then ((dbm_Same.f kj5 a0_0 l0_1 a1_0 l1_1).bind fun t396 => ((warrantorref08_Same.f kj5 a0_0 l0_1 a1_0 l1_1).bind fun t397 => (if (t396 != t397) = true then (none) else ((dbm_Empty.f kj5 a0_0 l0_1).bind fun t398 => (if (t398 != ((l0_1.length : Int) == 0)) = true then (none) else ((dbm_Has.f kj5 a0_0 l0_1 l2).bind fun t399 => ((warrantorref08_Has.f kj5 a0_0 l0_1 l2).bind fun t400 => (if (t399 != t400) = true then (none) else (if (l0_1.length : Int) > 0 then (if a4 ≥ 0 then (warrantorlaw08_DbmChecks_v1.j1 kj5 a3 a4 t387 t388 t389 t392 (decide (a4 ≤ a0_0)) a0_0 l0_1) else (warrantorlaw08_DbmChecks_v1.j1 kj5 a3 a4 t387 t388 t389 t392 false a0_0 l0_1)) else (warrantorlaw08_DbmChecks_v1.j1 kj5 a3 a4 t387 t388 t389 t392 false a0_0 l0_1)))))))))) else (none)))) else (none)))) = some r := H
      have A25 := Aside0.mk A250
      clear A250
      replace H := Option.bind_eq_some_iff.mp H
      obtain ⟨t393, A260, H⟩ := H
      replace H : ((warrantorlaw08_lives.f kj5).bind fun t394 => (if t394 = true then ((dbm_Check.f kj5 a0_0 l0_1).bind fun t395 => (if ((t395 == 0) != t393) = true then (none) else (if t393 = true then ((dbm_Same.f kj5 a0_0 l0_1 a1_0 l1_1).bind fun t396 => ((warrantorref08_Same.f kj5 a0_0 l0_1 a1_0 l1_1).bind fun t397 => (if (t396 != t397) = true then (none) else ((dbm_Empty.f kj5 a0_0 l0_1).bind fun t398 => (if (t398 != ((l0_1.length : Int) == 0)) = true then (none) else ((dbm_Has.f kj5 a0_0 l0_1 l2).bind fun t399 => ((warrantorref08_Has.f kj5 a0_0 l0_1 l2).bind fun t400 => (if (t399 != t400) = true then (none) else (if (l0_1.length : Int) > 0 then (if a4 ≥ 0 then (warrantorlaw08_DbmChecks_v1.j1 kj5 a3 a4 t387 t388 t389 t392 (decide (a4 ≤ a0_0)) a0_0 l0_1) else (warrantorlaw08_DbmChecks_v1.j1 kj5 a3 a4 t387 t388 t389 t392 false a0_0 l0_1)) else (warrantorlaw08_DbmChecks_v1.j1 kj5 a3 a4 t387 t388 t389 t392 false a0_0 l0_1)))))))))) else (none)))) else (none))) = some r := H
      have A26 := Aside0.mk A260
      clear A260
      replace H := Option.bind_eq_some_iff.mp H
      obtain ⟨t394, A270, H⟩ := H
      replace H : (if t394 = true then ((dbm_Check.f kj5 a0_0 l0_1).bind fun t395 => (if ((t395 == 0) != t393) = true then (none) else (if t393 = true then ((dbm_Same.f kj5 a0_0 l0_1 a1_0 l1_1).bind fun t396 => ((warrantorref08_Same.f kj5 a0_0 l0_1 a1_0 l1_1).bind fun t397 => (if (t396 != t397) = true then (none) else ((dbm_Empty.f kj5 a0_0 l0_1).bind fun t398 => (if (t398 != ((l0_1.length : Int) == 0)) = true then (none) else ((dbm_Has.f kj5 a0_0 l0_1 l2).bind fun t399 => ((warrantorref08_Has.f kj5 a0_0 l0_1 l2).bind fun t400 => (if (t399 != t400) = true then (none) else (if (l0_1.length : Int) > 0 then (if a4 ≥ 0 then (warrantorlaw08_DbmChecks_v1.j1 kj5 a3 a4 t387 t388 t389 t392 (decide (a4 ≤ a0_0)) a0_0 l0_1) else (warrantorlaw08_DbmChecks_v1.j1 kj5 a3 a4 t387 t388 t389 t392 false a0_0 l0_1)) else (warrantorlaw08_DbmChecks_v1.j1 kj5 a3 a4 t387 t388 t389 t392 false a0_0 l0_1)))))))))) else (none)))) else (none)) = some r := H
      have A27 := Aside0.mk A270
      clear A270
      by_cases c28 : t394 = true
      rotate_left
      · replace c28 := Bool.eq_false_iff.mpr c28
        subst c28
        have H1 : (none) = some r := by rw [if_neg (show ¬ (false = true) by decide)] at H; exact H
        clear H
        have H := H1
        clear H1
        exact absurd H (by simp)

      subst c28
      have H1 : ((dbm_Check.f kj5 a0_0 l0_1).bind fun t395 => (if ((t395 == 0) != t393) = true then (none) else (if t393 = true then ((dbm_Same.f kj5 a0_0 l0_1 a1_0 l1_1).bind fun t396 => ((warrantorref08_Same.f kj5 a0_0 l0_1 a1_0 l1_1).bind fun t397 => (if (t396 != t397) = true then (none) else ((dbm_Empty.f kj5 a0_0 l0_1).bind fun t398 => (if (t398 != ((l0_1.length : Int) == 0)) = true then (none) else ((dbm_Has.f kj5 a0_0 l0_1 l2).bind fun t399 => ((warrantorref08_Has.f kj5 a0_0 l0_1 l2).bind fun t400 => (if (t399 != t400) = true then (none) else (if (l0_1.length : Int) > 0 then (if a4 ≥ 0 then (warrantorlaw08_DbmChecks_v1.j1 kj5 a3 a4 t387 t388 t389 t392 (decide (a4 ≤ a0_0)) a0_0 l0_1) else (warrantorlaw08_DbmChecks_v1.j1 kj5 a3 a4 t387 t388 t389 t392 false a0_0 l0_1)) else (warrantorlaw08_DbmChecks_v1.j1 kj5 a3 a4 t387 t388 t389 t392 false a0_0 l0_1)))))))))) else (none)))) = some r := by rw [if_pos rfl] at H; exact H
      clear H
      have H := H1
      clear H1
      replace H := Option.bind_eq_some_iff.mp H
      obtain ⟨t395, A290, H⟩ := H
      replace H : (if ((t395 == 0) != t393) = true then (none) else (if t393 = true then ((dbm_Same.f kj5 a0_0 l0_1 a1_0 l1_1).bind fun t396 => ((warrantorref08_Same.f kj5 a0_0 l0_1 a1_0 l1_1).bind fun t397 => (if (t396 != t397) = true then (none) else ((dbm_Empty.f kj5 a0_0 l0_1).bind fun t398 => (if (t398 != ((l0_1.length : Int) == 0)) = true then (none) else ((dbm_Has.f kj5 a0_0 l0_1 l2).bind fun t399 => ((warrantorref08_Has.f kj5 a0_0 l0_1 l2).bind fun t400 => (if (t399 != t400) = true then (none) else (if (l0_1.length : Int) > 0 then (if a4 ≥ 0 then (warrantorlaw08_DbmChecks_v1.j1 kj5 a3 a4 t387 t388 t389 t392 (decide (a4 ≤ a0_0)) a0_0 l0_1) else (warrantorlaw08_DbmChecks_v1.j1 kj5 a3 a4 t387 t388 t389 t392 false a0_0 l0_1)) else (warrantorlaw08_DbmChecks_v1.j1 kj5 a3 a4 t387 t388 t389 t392 false a0_0 l0_1)))))))))) else (none))) = some r := H
      have A29 := Aside0.mk A290
      clear A290
      by_cases c30 : ((t395 == 0) != t393) = true
      · rw [if_pos c30] at H
        exact absurd H (by simp)
      rw [if_neg c30] at H
      have c30b0 : ((t395 == 0) != t393) = false := by simpa using c30
      (try (have c30b1 : decide ((t395 == 0) = t393) = true := by simpa using c30))
      (try (have c30b2 : ((t395 == 0) == t393) = true := by simpa using c30))
      clear c30
      by_cases c31 : t393 = true
      rotate_left
      · replace c31 := Bool.eq_false_iff.mpr c31
        subst c31
        have H1 : (none) = some r := by rw [if_neg (show ¬ (false = true) by decide)] at H; exact H
        clear H
        have H := H1
        clear H1
        exact absurd H (by simp)
      subst c31
      have H1 : ((dbm_Same.f kj5 a0_0 l0_1 a1_0 l1_1).bind fun t396 => ((warrantorref08_Same.f kj5 a0_0 l0_1 a1_0 l1_1).bind fun t397 => (if (t396 != t397) = true then (none) else ((dbm_Empty.f kj5 a0_0 l0_1).bind fun t398 => (if (t398 != ((l0_1.length : Int) == 0)) = true then (none) else ((dbm_Has.f kj5 a0_0 l0_1 l2).bind fun t399 => ((warrantorref08_Has.f kj5 a0_0 l0_1 l2).bind fun t400 => (if (t399 != t400) = true then (none) else (if (l0_1.length : Int) > 0 then (if a4 ≥ 0 then (warrantorlaw08_DbmChecks_v1.j1 kj5 a3 a4 t387 t388 t389 t392 (decide (a4 ≤ a0_0)) a0_0 l0_1) else (warrantorlaw08_DbmChecks_v1.j1 kj5 a3 a4 t387 t388 t389 t392 false a0_0 l0_1)) else (warrantorlaw08_DbmChecks_v1.j1 kj5 a3 a4 t387 t388 t389 t392 false a0_0 l0_1)))))))))) = some r := by rw [if_pos rfl] at H; exact H
      clear H
      have H := H1
      clear H1
      replace H := Option.bind_eq_some_iff.mp H
      obtain ⟨t396, A320, H⟩ := H
      replace H : ((warrantorref08_Same.f kj5 a0_0 l0_1 a1_0 l1_1).bind fun t397 => (if (t396 != t397) = true then (none) else ((dbm_Empty.f kj5 a0_0 l0_1).bind fun t398 => (if (t398 != ((l0_1.length : Int) == 0)) = true then (none) else ((dbm_Has.f kj5 a0_0 l0_1 l2).bind fun t399 => ((warrantorref08_Has.f kj5 a0_0 l0_1 l2).bind fun t400 => (if (t399 != t400) = true then (none) else (if (l0_1.length : Int) > 0 then (if a4 ≥ 0 then (warrantorlaw08_DbmChecks_v1.j1 kj5 a3 a4 t387 t388 t389 t392 (decide (a4 ≤ a0_0)) a0_0 l0_1) else (warrantorlaw08_DbmChecks_v1.j1 kj5 a3 a4 t387 t388 t389 t392 false a0_0 l0_1)) else (warrantorlaw08_DbmChecks_v1.j1 kj5 a3 a4 t387 t388 t389 t392 false a0_0 l0_1))))))))) = some r := H
      have A32 := Aside0.mk A320
      clear A320
      replace H := Option.bind_eq_some_iff.mp H
      obtain ⟨t397, A330, H⟩ := H
      replace H : (if (t396 != t397) = true then (none) else ((dbm_Empty.f kj5 a0_0 l0_1).bind fun t398 => (if (t398 != ((l0_1.length : Int) == 0)) = true then (none) else ((dbm_Has.f kj5 a0_0 l0_1 l2).bind fun t399 => ((warrantorref08_Has.f kj5 a0_0 l0_1 l2).bind fun t400 => (if (t399 != t400) = true then (none) else (if (l0_1.length : Int) > 0 then (if a4 ≥ 0 then (warrantorlaw08_DbmChecks_v1.j1 kj5 a3 a4 t387 t388 t389 t392 (decide (a4 ≤ a0_0)) a0_0 l0_1) else (warrantorlaw08_DbmChecks_v1.j1 kj5 a3 a4 t387 t388 t389 t392 false a0_0 l0_1)) else (warrantorlaw08_DbmChecks_v1.j1 kj5 a3 a4 t387 t388 t389 t392 false a0_0 l0_1)))))))) = some r := H
      have A33 := Aside0.mk A330
      clear A330
      by_cases c34 : (t396 != t397) = true
      · rw [if_pos c34] at H
        exact absurd H (by simp)
      rw [if_neg c34] at H
      have c34b0 : (t396 != t397) = false := by simpa using c34
      (try (have c34b1 : decide (t396 = t397) = true := by simpa using c34))
      (try (have c34b2 : (t396 == t397) = true := by simpa using c34))
      clear c34
      replace H := Option.bind_eq_some_iff.mp H
      obtain ⟨t398, A350, H⟩ := H
      replace H : (if (t398 != ((l0_1.length : Int) == 0)) = true then (none) else ((dbm_Has.f kj5 a0_0 l0_1 l2).bind fun t399 => ((warrantorref08_Has.f kj5 a0_0 l0_1 l2).bind fun t400 => (if (t399 != t400) = true then (none) else (if (l0_1.length : Int) > 0 then (if a4 ≥ 0 then (warrantorlaw08_DbmChecks_v1.j1 kj5 a3 a4 t387 t388 t389 t392 (decide (a4 ≤ a0_0)) a0_0 l0_1) else (warrantorlaw08_DbmChecks_v1.j1 kj5 a3 a4 t387 t388 t389 t392 false a0_0 l0_1)) else (warrantorlaw08_DbmChecks_v1.j1 kj5 a3 a4 t387 t388 t389 t392 false a0_0 l0_1)))))) = some r := H
      have A35 := Aside0.mk A350
      clear A350
      by_cases c36 : (t398 != ((l0_1.length : Int) == 0)) = true
      · rw [if_pos c36] at H
        exact absurd H (by simp)
      rw [if_neg c36] at H
      have c36b0 : (t398 != ((l0_1.length : Int) == 0)) = false := by simpa using c36
      (try (have c36b1 : decide (t398 = ((l0_1.length : Int) == 0)) = true := by simpa using c36))
      (try (have c36b2 : (t398 == ((l0_1.length : Int) == 0)) = true := by simpa using c36))
      clear c36
      replace H := Option.bind_eq_some_iff.mp H
      obtain ⟨t399, A370, H⟩ := H
      replace H : ((warrantorref08_Has.f kj5 a0_0 l0_1 l2).bind fun t400 => (if (t399 != t400) = true then (none) else (if (l0_1.length : Int) > 0 then (if a4 ≥ 0 then (warrantorlaw08_DbmChecks_v1.j1 kj5 a3 a4 t387 t388 t389 t392 (decide (a4 ≤ a0_0)) a0_0 l0_1) else (warrantorlaw08_DbmChecks_v1.j1 kj5 a3 a4 t387 t388 t389 t392 false a0_0 l0_1)) else (warrantorlaw08_DbmChecks_v1.j1 kj5 a3 a4 t387 t388 t389 t392 false a0_0 l0_1)))) = some r := H
      have A37 := Aside0.mk A370
      clear A370
      replace H := Option.bind_eq_some_iff.mp H
      obtain ⟨t400, A380, H⟩ := H
      replace H : (if (t399 != t400) = true then (none) else (if (l0_1.length : Int) > 0 then (if a4 ≥ 0 then (warrantorlaw08_DbmChecks_v1.j1 kj5 a3 a4 t387 t388 t389 t392 (decide (a4 ≤ a0_0)) a0_0 l0_1) else (warrantorlaw08_DbmChecks_v1.j1 kj5 a3 a4 t387 t388 t389 t392 false a0_0 l0_1)) else (warrantorlaw08_DbmChecks_v1.j1 kj5 a3 a4 t387 t388 t389 t392 false a0_0 l0_1))) = some r := H
      have A38 := Aside0.mk A380
      clear A380
      by_cases c39 : (t399 != t400) = true
      · rw [if_pos c39] at H
        exact absurd H (by simp)
      rw [if_neg c39] at H
      have c39b0 : (t399 != t400) = false := by simpa using c39
      (try (have c39b1 : decide (t399 = t400) = true := by simpa using c39))
      (try (have c39b2 : (t399 == t400) = true := by simpa using c39))
      clear c39
      have HC40 := Aside0.mk H
      clear H
      have hnb41 := NB382_383.out
      have hnc41 := NB383_382.out
      have hcz42_0 : wc.cell? ⟨gb382, 0, none⟩ = some (.int .i64 a0_0) := (blk_cell BK382.out 0).trans rfl
      have hcz42_1 : wc.cell? ⟨gb382, 1, none⟩ = some (.slice A0_1 l0_1.length c0_1) := (blk_cell BK382.out 1).trans rfl
      have hfz42_0 := blk_frozen BK382.out 0
      have hfz42_1 := blk_frozen BK382.out 1
      try go_wp2_with (first | ((with_reducible refine gate_callee (f := 32) rfl ?_); refine goesL_ (some 35) rfl rfl Try.func32 (by kernel_rfl) rfl #[.agg #[.int .i64 a0_0, .slice A0_1 l0_1.length c0_1], .int .i64 a3, .int .i64 a4] rfl MP_ ?_; (with_reducible refine (dbm_Bound.calls kj5 a0_0 _ _ l0_1 a3 a4 t387 t388 _ ?side1 ?side2 A24.out).mono ?_); (case side1 => repeat (first | exact (Kd.C_below HR0_1.out HB.out) | (with_reducible refine Kd.C_alloc ?_ _) | (with_reducible refine Kd.C_drewN ?_ _) | (with_reducible refine Kd.C_drew ?_))); (case side2 => exact HC0_1.out); rintro e w43 ⟨rfl, hb⟩; refine ⟨_, rfl, ?_⟩; have n0_ := Aside0.mk (blk_below (g := gb382) (o := .cells #[.int .i64 a0_0, .slice A0_1 l0_1.length c0_1] 40 (0, 0)) (bk_ BK382.out) hb); have n1_ := Aside0.mk (blk_below (g := gb383) (o := .cells #[.int .i64 a1_0, .slice A1_1 l1_1.length c1_1] 40 (0, 0)) (bk_ BK383.out) hb); have n2_ := Aside0.mk (below_step HB_ hb); clear BK382; clear BK383; clear HB; have BK382 := n0_; have BK383 := n1_; have HB := n2_; clear n0_ n1_ n2_; (try clear hb); (try clear hb2); (try clear hk); (try clear hi); have hcz44_0 : w43.cell? ⟨gb382, 0, none⟩ = some (.int .i64 a0_0) := (blk_cell BK382.out 0).trans rfl; have hcz44_1 : w43.cell? ⟨gb382, 1, none⟩ = some (.slice A0_1 l0_1.length c0_1) := (blk_cell BK382.out 1).trans rfl; have hfz44_0 := blk_frozen BK382.out 0; have hfz44_1 := blk_frozen BK382.out 1) | ((with_reducible refine gate_callee (f := 33) rfl ?_); refine goesL_ (some 41) rfl rfl Try.func33 (by kernel_rfl) rfl #[.agg #[.int .i64 a0_0, .slice A0_1 l0_1.length c0_1], .int .i64 a4] rfl MP_ ?_; (with_reducible refine (dbm_Point.calls kj5 a0_0 _ _ l0_1 a4 t389 t392 _ ?side1 ?side2 A25.out).mono ?_); (case side1 => repeat (first | exact (Kd.C_below HR0_1.out HB.out) | (with_reducible refine Kd.C_alloc ?_ _) | (with_reducible refine Kd.C_drewN ?_ _) | (with_reducible refine Kd.C_drew ?_))); (case side2 => exact HC0_1.out); rintro e w45 ⟨v390, rfl, ho0, hb⟩; refine ⟨_, rfl, ?_⟩; have n0_ := Aside0.mk (Kd.R_lower ho0 (below_size HB_)); have n1_ := Aside0.mk (blk_below (g := gb382) (o := .cells #[.int .i64 a0_0, .slice A0_1 l0_1.length c0_1] 40 (0, 0)) (bk_ BK382.out) hb); have n2_ := Aside0.mk (blk_below (g := gb383) (o := .cells #[.int .i64 a1_0, .slice A1_1 l1_1.length c1_1] 40 (0, 0)) (bk_ BK383.out) hb); have n3_ := Aside0.mk (below_step HB_ hb); clear BK382; clear BK383; clear HB; have HO391 := n0_; have BK382 := n1_; have BK383 := n2_; have HB := n3_; clear n0_ n1_ n2_ n3_; (try clear hb); (try clear hb2); (try clear hk); (try clear hi); (try clear ho0); have hcz46_0 : w45.cell? ⟨gb382, 0, none⟩ = some (.int .i64 a0_0) := (blk_cell BK382.out 0).trans rfl; have hcz46_1 : w45.cell? ⟨gb382, 1, none⟩ = some (.slice A0_1 l0_1.length c0_1) := (blk_cell BK382.out 1).trans rfl; have hfz46_0 := blk_frozen BK382.out 0; have hfz46_1 := blk_frozen BK382.out 1) | ((with_reducible refine gate_callee (f := 34) rfl ?_); refine goesL_ (some 45) rfl rfl Try.func34 (by kernel_rfl) rfl #[.agg #[.int .i64 a0_0, .slice A0_1 l0_1.length c0_1]] rfl MP_ ?_; (with_reducible refine (warrantorref08_Check.calls kj5 a0_0 _ _ l0_1 true _ ?side1 ?side2 A26.out).mono ?_); (case side1 => repeat (first | exact (Kd.C_below HR0_1.out HB.out) | (with_reducible refine Kd.C_alloc ?_ _) | (with_reducible refine Kd.C_drewN ?_ _) | (with_reducible refine Kd.C_drew ?_))); (case side2 => exact HC0_1.out); rintro e w47 ⟨rfl, hb⟩; refine ⟨_, rfl, ?_⟩; have n0_ := Aside0.mk (Kd.R_below (by (with_reducible repeat (first | apply Kd.R_alloc | apply Kd.R_drewN | apply Kd.R_drew)); exact HO391.out) hb); have n1_ := Aside0.mk (blk_below (g := gb382) (o := .cells #[.int .i64 a0_0, .slice A0_1 l0_1.length c0_1] 40 (0, 0)) (bk_ BK382.out) hb); have n2_ := Aside0.mk (blk_below (g := gb383) (o := .cells #[.int .i64 a1_0, .slice A1_1 l1_1.length c1_1] 40 (0, 0)) (bk_ BK383.out) hb); have n3_ := Aside0.mk (below_step HB_ hb); clear HO391; clear BK382; clear BK383; clear HB; have HO391 := n0_; have BK382 := n1_; have BK383 := n2_; have HB := n3_; clear n0_ n1_ n2_ n3_; (try clear hb); (try clear hb2); (try clear hk); (try clear hi)))
      first | (obtain ⟨w47, hq_⟩ : ∃ x, x = w47.drewN nd := ⟨_, rfl⟩; rw [← hq_]; have q0_ := Aside0.mk (Kd.R_drewN HO391.out nd); rw [← hq_] at q0_; have q1_ := Aside0.mk (blk_drewN BK382.out nd); rw [← hq_] at q1_; have q2_ := Aside0.mk (blk_drewN BK383.out nd); rw [← hq_] at q2_; have q3_ := Aside0.mk (pw_below_drewN HB.out nd); rw [← hq_] at q3_; clear HO391; clear BK382; clear BK383; clear HB; have HO391 := q0_; have BK382 := q1_; have BK383 := q2_; have HB := q3_; clear hq_ q0_ q1_ q2_ q3_) | skip
      have n0_ := Aside0.mk (Kd.R_drew HO391.out)
      have n1_ := Aside0.mk (blk_drew BK382.out)
      have n2_ := Aside0.mk (blk_drew BK383.out)
      have n3_ := Aside0.mk (below_drew1 HB.out)
      clear HO391
      clear BK382
      clear BK383
      clear HB
      have HO391 := n0_
      have BK382 := n1_
      have BK383 := n2_
      have HB := n3_
      clear n0_ n1_ n2_ n3_
      refine start_ (n := 51) (S := fun w' => w'.cell? ⟨gb382, 0, none⟩ = some (.int .i64 a0_0) ∧ w'.cell? ⟨gb382, 1, none⟩ = some (.slice A0_1 l0_1.length c0_1) ∧ w'.cell? ⟨gb383, 0, none⟩ = some (.int .i64 a1_0) ∧ w'.cell? ⟨gb383, 1, none⟩ = some (.slice A1_1 l1_1.length c1_1)) (ds := []) #[false, false, false, false, false, false, false, false, false, false, false, false, false, false, false, false, false, false, false, false, false, false, false, false, false, false, false, false, false, false, false, false, false, false, false, false, false, false, false, false, false, false, false, false, false, false, false, false, false, false, false] (by kernel_rfl) rfl rfl ⟨(blk_cell BK382.out 0).trans rfl, (blk_cell BK382.out 1).trans rfl, (blk_cell BK383.out 0).trans rfl, (blk_cell BK383.out 1).trans rfl⟩ (fun hHeld => ?_); refine with_tabW warrantorlaw08_DbmChecks_v1.tab6 warrantorlaw08_DbmChecks_v1.bits6 (fun HT_ HW_ => ?_)
      generalize w47.drew = w48 at HO391 BK382 BK383 HB hHeld ⊢
      refine one_ (i := 0) (N := some 46) #[true, false, false, false, false, false, false, false, false, false, false, false, false, false, false, false, false, false, false, false, false, false, false, false, false, false, false, false, false, false, false, false, false, false, false, false, false, false, false, false, false, false, false, false, false, false, false, false, false, false, false] rfl rfl (one_of HT_.out (by kernel_rfl)) (by decide) (fun K hK => ?_)
      refine goes_ Try.func22 (by kernel_rfl) rfl #[] (by rfl) rfl rfl MP_ ?_
      with_reducible refine (warrantorlaw08_lives.calls kj5  true _ A27.out).mono ?_
      rintro e w49 ⟨rfl, hb⟩
      refine ⟨_, rfl, ?_⟩
      have n0_ := Aside0.mk (Kd.R_below (by (with_reducible repeat (first | apply Kd.R_alloc | apply Kd.R_drewN | apply Kd.R_drew)); exact HO391.out) hb)
      have n1_ := Aside0.mk (blk_below (g := gb382) (o := .cells #[.int .i64 a0_0, .slice A0_1 l0_1.length c0_1] 40 (0, 0)) (bk_ BK382.out) hb)
      have n2_ := Aside0.mk (blk_below (g := gb383) (o := .cells #[.int .i64 a1_0, .slice A1_1 l1_1.length c1_1] 40 (0, 0)) (bk_ BK383.out) hb)
      have n3_ := Aside0.mk (below_step HB_ hb)
      clear HO391
      clear BK382
      clear BK383
      clear HB
      have HO391 := n0_
      have BK382 := n1_
      have BK383 := n2_
      have HB := n3_
      clear n0_ n1_ n2_ n3_
      (try clear hb)
      (try clear hb2)
      (try clear hk)
      (try clear hi)
      refine hK.out _ _ ⟨(blk_cell BK382.out 0).trans rfl, (blk_cell BK382.out 1).trans rfl, (blk_cell BK383.out 0).trans rfl, (blk_cell BK383.out 1).trans rfl⟩ (fun hHeld => ?_)
      clear hK K
      refine norm_ (a' := ?_) ?_ ?_
      rotate_left
      · show Act.put _ (some 46) _ = _
        simp only [Act.put, List.setIfInBounds_toArray, List.set_cons_zero, List.set_cons_succ, i64_w, i32_w]
        rfl
      refine pure_ (i := 1) (N := some 47) (v := ?_) (a' := ?_) #[true, true, false, false, false, false, false, false, false, false, false, false, false, false, false, false, false, false, false, false, false, false, false, false, false, false, false, false, false, false, false, false, false, false, false, false, false, false, false, false, false, false, false, false, false, false, false, false, false, false, false] rfl rfl (any_of HT_.out (by kernel_rfl)) (fun _ _ _ h => h) (Or.inl ⟨by rfl, ?_⟩) ?_ ?_
      rotate_left
      · intro w'
        go_simp
        with_reducible rfl
      rotate_left
      · exact AP_
      refine pure_ (i := 2) (N := some 48) (v := ?_) (a' := ?_) #[true, true, true, false, false, false, false, false, false, false, false, false, false, false, false, false, false, false, false, false, false, false, false, false, false, false, false, false, false, false, false, false, false, false, false, false, false, false, false, false, false, false, false, false, false, false, false, false, false, false, false] rfl rfl (any_of HT_.out (by kernel_rfl)) (fun _ _ _ h => h) (Or.inl ⟨by rfl, ?_⟩) ?_ ?_
      rotate_left
      · intro w'
        go_simp
        with_reducible rfl
      rotate_left
      · exact AP_
      refine pure_ (i := 6) (N := some 52) (v := ?_) (a' := ?_) #[true, true, true, false, false, false, true, false, false, false, false, false, false, false, false, false, false, false, false, false, false, false, false, false, false, false, false, false, false, false, false, false, false, false, false, false, false, false, false, false, false, false, false, false, false, false, false, false, false, false, false] rfl rfl (any_of HT_.out (by kernel_rfl)) (fun _ _ _ h => h) (Or.inl ⟨by rfl, ?_⟩) ?_ ?_
      rotate_left
      · intro w'
        go_simp
        with_reducible rfl
      rotate_left
      · exact AP_
      refine take_ (i := 3) (N := some 49) (v := ?_) (a' := ?_) #[true, true, true, true, false, false, true, false, false, false, false, false, false, false, false, false, false, false, false, false, false, false, false, false, false, false, false, false, false, false, false, false, false, false, false, false, false, false, false, false, false, false, false, false, false, false, false, false, false, false, false] rfl rfl (take_ofW HT_.out HW_.out (by kernel_rfl)) (fun _ _ _ h => h) (Or.inl ⟨by rfl, ?_⟩) hHeld ?_ ?_
      rotate_left
      · rintro w' ⟨s0, s1, s2, s3⟩
        go_simp
        with_reducible rfl
      rotate_left
      · exact AP_
      refine one_ (i := 4) (N := some 50) #[true, true, true, true, true, false, true, false, false, false, false, false, false, false, false, false, false, false, false, false, false, false, false, false, false, false, false, false, false, false, false, false, false, false, false, false, false, false, false, false, false, false, false, false, false, false, false, false, false, false, false] rfl rfl (one_of HT_.out (by kernel_rfl)) (by decide) (fun K hK => ?_)
      refine goes_ Try.func30 (by kernel_rfl) rfl #[.agg #[.int .i64 a0_0, .slice A0_1 l0_1.length c0_1]] (by rfl) rfl rfl MP_ ?_
      with_reducible refine (dbm_Check.calls kj5 a0_0 _ _ l0_1 t395 _ ?side1 ?side2 A29.out).mono ?_
      (case side1 => repeat (first | exact (Kd.C_below HR0_1.out HB.out) | (with_reducible refine Kd.C_alloc ?_ _) | (with_reducible refine Kd.C_drewN ?_ _) | (with_reducible refine Kd.C_drew ?_)))
      (case side2 => exact HC0_1.out)
      rintro e w50 ⟨rfl, hb⟩
      refine ⟨_, rfl, ?_⟩
      have n0_ := Aside0.mk (Kd.R_below (by (with_reducible repeat (first | apply Kd.R_alloc | apply Kd.R_drewN | apply Kd.R_drew)); exact HO391.out) hb)
      have n1_ := Aside0.mk (blk_below (g := gb382) (o := .cells #[.int .i64 a0_0, .slice A0_1 l0_1.length c0_1] 40 (0, 0)) (bk_ BK382.out) hb)
      have n2_ := Aside0.mk (blk_below (g := gb383) (o := .cells #[.int .i64 a1_0, .slice A1_1 l1_1.length c1_1] 40 (0, 0)) (bk_ BK383.out) hb)
      have n3_ := Aside0.mk (below_step HB_ hb)
      clear HO391
      clear BK382
      clear BK383
      clear HB
      have HO391 := n0_
      have BK382 := n1_
      have BK383 := n2_
      have HB := n3_
      clear n0_ n1_ n2_ n3_
      (try clear hb)
      (try clear hb2)
      (try clear hk)
      (try clear hi)
      refine hK.out _ _ ⟨(blk_cell BK382.out 0).trans rfl, (blk_cell BK382.out 1).trans rfl, (blk_cell BK383.out 0).trans rfl, (blk_cell BK383.out 1).trans rfl⟩ (fun hHeld => ?_)
      clear hK K
      refine norm_ (a' := ?_) ?_ ?_
      rotate_left
      · show Act.put _ (some 50) _ = _
        simp only [Act.put, List.setIfInBounds_toArray, List.set_cons_zero, List.set_cons_succ, i64_w, i32_w]
        rfl
      refine pure_ (i := 5) (N := some 51) (v := ?_) (a' := ?_) #[true, true, true, true, true, true, true, false, false, false, false, false, false, false, false, false, false, false, false, false, false, false, false, false, false, false, false, false, false, false, false, false, false, false, false, false, false, false, false, false, false, false, false, false, false, false, false, false, false, false, false] rfl rfl (any_of HT_.out (by kernel_rfl)) (fun _ _ _ h => h) (Or.inl ⟨by rfl, ?_⟩) ?_ ?_
      rotate_left
      · intro w'
        go_simp
        with_reducible rfl
      rotate_left
      · exact AP_
      refine pure_ (i := 7) (N := some 53) (v := ?_) (a' := ?_) #[true, true, true, true, true, true, true, true, false, false, false, false, false, false, false, false, false, false, false, false, false, false, false, false, false, false, false, false, false, false, false, false, false, false, false, false, false, false, false, false, false, false, false, false, false, false, false, false, false, false, false] rfl rfl (any_of HT_.out (by kernel_rfl)) (fun _ _ _ h => h) (Or.inl ⟨by rfl, ?_⟩) ?_ ?_
      rotate_left
      · intro w'
        go_simp
        with_reducible rfl
      rotate_left
      · exact AP_
      refine pure_ (i := 8) (N := some 54) (v := ?_) (a' := ?_) #[true, true, true, true, true, true, true, true, true, false, false, false, false, false, false, false, false, false, false, false, false, false, false, false, false, false, false, false, false, false, false, false, false, false, false, false, false, false, false, false, false, false, false, false, false, false, false, false, false, false, false] rfl rfl (any_of HT_.out (by kernel_rfl)) (fun _ _ _ h => h) (Or.inl ⟨by rfl, ?_⟩) ?_ ?_
      rotate_left
      · intro w'
        go_simp
        with_reducible rfl
      rotate_left
      · exact AP_
      refine pure_ (i := 9) (N := some 55) (v := ?_) (a' := ?_) #[true, true, true, true, true, true, true, true, true, true, false, false, false, false, false, false, false, false, false, false, false, false, false, false, false, false, false, false, false, false, false, false, false, false, false, false, false, false, false, false, false, false, false, false, false, false, false, false, false, false, false] rfl rfl (any_of HT_.out (by kernel_rfl)) (fun _ _ _ h => h) (Or.inl ⟨by rfl, ?_⟩) ?_ ?_
      rotate_left
      · intro w'
        go_simp
        with_reducible rfl
      rotate_left
      · exact AP_
      refine pure_ (i := 10) (N := some 56) (v := ?_) (a' := ?_) #[true, true, true, true, true, true, true, true, true, true, true, false, false, false, false, false, false, false, false, false, false, false, false, false, false, false, false, false, false, false, false, false, false, false, false, false, false, false, false, false, false, false, false, false, false, false, false, false, false, false, false] rfl rfl (any_of HT_.out (by kernel_rfl)) (fun _ _ _ h => h) (Or.inl ⟨by rfl, ?_⟩) ?_ ?_
      rotate_left
      · intro w'
        go_simp
        with_reducible rfl
      rotate_left
      · exact AP_
      refine pure_ (i := 11) (N := some 57) (v := ?_) (a' := ?_) #[true, true, true, true, true, true, true, true, true, true, true, true, false, false, false, false, false, false, false, false, false, false, false, false, false, false, false, false, false, false, false, false, false, false, false, false, false, false, false, false, false, false, false, false, false, false, false, false, false, false, false] rfl rfl (any_of HT_.out (by kernel_rfl)) (fun _ _ _ h => h) (Or.inl ⟨by rfl, ?_⟩) ?_ ?_
      rotate_left
      · intro w'
        go_simp
        with_reducible rfl
      rotate_left
      · exact AP_
      refine pure_ (i := 12) (N := some 58) (v := ?_) (a' := ?_) #[true, true, true, true, true, true, true, true, true, true, true, true, true, false, false, false, false, false, false, false, false, false, false, false, false, false, false, false, false, false, false, false, false, false, false, false, false, false, false, false, false, false, false, false, false, false, false, false, false, false, false] rfl rfl (any_of HT_.out (by kernel_rfl)) (fun _ _ _ h => h) (Or.inl ⟨by rfl, ?_⟩) ?_ ?_
      rotate_left
      · intro w'
        go_simp
        with_reducible rfl
      rotate_left
      · exact AP_
      refine pure_ (i := 13) (N := some 59) (v := undef) (a' := ?_) #[true, true, true, true, true, true, true, true, true, true, true, true, true, true, false, false, false, false, false, false, false, false, false, false, false, false, false, false, false, false, false, false, false, false, false, false, false, false, false, false, false, false, false, false, false, false, false, false, false, false, false] rfl rfl (any_of HT_.out (by kernel_rfl)) (fun _ _ _ h => h) (Or.inr ⟨by rfl, rfl⟩) ?_ ?_
      rotate_left
      · exact AP_
      refine pure_ (i := 14) (N := some 60) (v := undef) (a' := ?_) #[true, true, true, true, true, true, true, true, true, true, true, true, true, true, true, false, false, false, false, false, false, false, false, false, false, false, false, false, false, false, false, false, false, false, false, false, false, false, false, false, false, false, false, false, false, false, false, false, false, false, false] rfl rfl (any_of HT_.out (by kernel_rfl)) (fun _ _ _ h => h) (Or.inr ⟨by rfl, rfl⟩) ?_ ?_
      rotate_left
      · exact AP_
      refine pure_ (i := 15) (N := some 61) (v := undef) (a' := ?_) #[true, true, true, true, true, true, true, true, true, true, true, true, true, true, true, true, false, false, false, false, false, false, false, false, false, false, false, false, false, false, false, false, false, false, false, false, false, false, false, false, false, false, false, false, false, false, false, false, false, false, false] rfl rfl (any_of HT_.out (by kernel_rfl)) (fun _ _ _ h => h) (Or.inr ⟨by rfl, rfl⟩) ?_ ?_
      rotate_left
      · exact AP_
      refine pure_ (i := 16) (N := some 62) (v := ?_) (a' := ?_) #[true, true, true, true, true, true, true, true, true, true, true, true, true, true, true, true, true, false, false, false, false, false, false, false, false, false, false, false, false, false, false, false, false, false, false, false, false, false, false, false, false, false, false, false, false, false, false, false, false, false, false] rfl rfl (any_of HT_.out (by kernel_rfl)) (fun _ _ _ h => h) (Or.inl ⟨by rfl, ?_⟩) ?_ ?_
      rotate_left
      · intro w'
        go_simp
        with_reducible rfl
      rotate_left
      · exact AP_
      refine pure_ (i := 17) (N := some 63) (v := ?_) (a' := ?_) #[true, true, true, true, true, true, true, true, true, true, true, true, true, true, true, true, true, true, false, false, false, false, false, false, false, false, false, false, false, false, false, false, false, false, false, false, false, false, false, false, false, false, false, false, false, false, false, false, false, false, false] rfl rfl (any_of HT_.out (by kernel_rfl)) (fun _ _ _ h => h) (Or.inl ⟨by rfl, ?_⟩) ?_ ?_
      rotate_left
      · intro w'
        go_simp
        with_reducible rfl
      rotate_left
      · exact AP_
      refine pure_ (i := 18) (N := some 64) (v := ?_) (a' := ?_) #[true, true, true, true, true, true, true, true, true, true, true, true, true, true, true, true, true, true, true, false, false, false, false, false, false, false, false, false, false, false, false, false, false, false, false, false, false, false, false, false, false, false, false, false, false, false, false, false, false, false, false] rfl rfl (any_of HT_.out (by kernel_rfl)) (fun _ _ _ h => h) (Or.inl ⟨by rfl, ?_⟩) ?_ ?_
      rotate_left
      · intro w'
        go_simp
        with_reducible rfl
      rotate_left
      · exact AP_
      refine take_ (i := 19) (N := some 65) (v := ?_) (a' := ?_) #[true, true, true, true, true, true, true, true, true, true, true, true, true, true, true, true, true, true, true, true, false, false, false, false, false, false, false, false, false, false, false, false, false, false, false, false, false, false, false, false, false, false, false, false, false, false, false, false, false, false, false] rfl rfl (take_ofW HT_.out HW_.out (by kernel_rfl)) (fun _ _ _ h => h) (Or.inl ⟨by rfl, ?_⟩) hHeld ?_ ?_
      rotate_left
      · rintro w' ⟨s0, s1, s2, s3⟩
        go_simp
        with_reducible rfl
      rotate_left
      · exact AP_
      refine take_ (i := 20) (N := some 66) (v := ?_) (a' := ?_) #[true, true, true, true, true, true, true, true, true, true, true, true, true, true, true, true, true, true, true, true, true, false, false, false, false, false, false, false, false, false, false, false, false, false, false, false, false, false, false, false, false, false, false, false, false, false, false, false, false, false, false] rfl rfl (take_ofW HT_.out HW_.out (by kernel_rfl)) (fun _ _ _ h => h) (Or.inl ⟨by rfl, ?_⟩) hHeld ?_ ?_
      rotate_left
      · rintro w' ⟨s0, s1, s2, s3⟩
        go_simp
        with_reducible rfl
      rotate_left
      · exact AP_
      refine take_ (i := 22) (N := some 68) (v := ?_) (a' := ?_) #[true, true, true, true, true, true, true, true, true, true, true, true, true, true, true, true, true, true, true, true, true, false, true, false, false, false, false, false, false, false, false, false, false, false, false, false, false, false, false, false, false, false, false, false, false, false, false, false, false, false, false] rfl rfl (take_ofW HT_.out HW_.out (by kernel_rfl)) (fun _ _ _ h => h) (Or.inl ⟨by rfl, ?_⟩) hHeld ?_ ?_
      rotate_left
      · rintro w' ⟨s0, s1, s2, s3⟩
        go_simp
        with_reducible rfl
      rotate_left
      · exact AP_
      refine take_ (i := 23) (N := some 69) (v := ?_) (a' := ?_) #[true, true, true, true, true, true, true, true, true, true, true, true, true, true, true, true, true, true, true, true, true, false, true, true, false, false, false, false, false, false, false, false, false, false, false, false, false, false, false, false, false, false, false, false, false, false, false, false, false, false, false] rfl rfl (take_ofW HT_.out HW_.out (by kernel_rfl)) (fun _ _ _ h => h) (Or.inl ⟨by rfl, ?_⟩) hHeld ?_ ?_
      rotate_left
      · rintro w' ⟨s0, s1, s2, s3⟩
        go_simp
        with_reducible rfl
      rotate_left
      · exact AP_
      refine one_ (i := 21) (N := some 67) #[true, true, true, true, true, true, true, true, true, true, true, true, true, true, true, true, true, true, true, true, true, true, true, true, false, false, false, false, false, false, false, false, false, false, false, false, false, false, false, false, false, false, false, false, false, false, false, false, false, false, false] rfl rfl (one_of HT_.out (by kernel_rfl)) (by decide) (fun K hK => ?_)
      refine goes_ Try.func26 (by kernel_rfl) rfl #[.agg #[.int .i64 a0_0, .slice A0_1 l0_1.length c0_1], .agg #[.int .i64 a1_0, .slice A1_1 l1_1.length c1_1]] (by rfl) rfl rfl MP_ ?_
      with_reducible refine (dbm_Same.calls kj5 a0_0 _ _ l0_1 a1_0 _ _ l1_1 t396 _ ?side1 ?side2 ?side3 ?side4 A32.out).mono ?_
      (case side1 => repeat (first | exact (Kd.C_below HR0_1.out HB.out) | (with_reducible refine Kd.C_alloc ?_ _) | (with_reducible refine Kd.C_drewN ?_ _) | (with_reducible refine Kd.C_drew ?_)))
      (case side2 => exact HC0_1.out)
      (case side3 => repeat (first | exact (Kd.C_below HR1_1.out HB.out) | (with_reducible refine Kd.C_alloc ?_ _) | (with_reducible refine Kd.C_drewN ?_ _) | (with_reducible refine Kd.C_drew ?_)))
      (case side4 => exact HC1_1.out)
      rintro e w51 ⟨rfl, hb⟩
      refine ⟨_, rfl, ?_⟩
      have n0_ := Aside0.mk (Kd.R_below (by (with_reducible repeat (first | apply Kd.R_alloc | apply Kd.R_drewN | apply Kd.R_drew)); exact HO391.out) hb)
      have n1_ := Aside0.mk (blk_below (g := gb382) (o := .cells #[.int .i64 a0_0, .slice A0_1 l0_1.length c0_1] 40 (0, 0)) (bk_ BK382.out) hb)
      have n2_ := Aside0.mk (blk_below (g := gb383) (o := .cells #[.int .i64 a1_0, .slice A1_1 l1_1.length c1_1] 40 (0, 0)) (bk_ BK383.out) hb)
      have n3_ := Aside0.mk (below_step HB_ hb)
      clear HO391
      clear BK382
      clear BK383
      clear HB
      have HO391 := n0_
      have BK382 := n1_
      have BK383 := n2_
      have HB := n3_
      clear n0_ n1_ n2_ n3_
      (try clear hb)
      (try clear hb2)
      (try clear hk)
      (try clear hi)
      refine hK.out _ _ ⟨(blk_cell BK382.out 0).trans rfl, (blk_cell BK382.out 1).trans rfl, (blk_cell BK383.out 0).trans rfl, (blk_cell BK383.out 1).trans rfl⟩ (fun hHeld => ?_)
      clear hK K
      refine norm_ (a' := ?_) ?_ ?_
      rotate_left
      · show Act.put _ (some 67) _ = _
        simp only [Act.put, List.setIfInBounds_toArray, List.set_cons_zero, List.set_cons_succ, i64_w, i32_w]
        rfl
      refine one_ (i := 24) (N := some 70) #[true, true, true, true, true, true, true, true, true, true, true, true, true, true, true, true, true, true, true, true, true, true, true, true, true, false, false, false, false, false, false, false, false, false, false, false, false, false, false, false, false, false, false, false, false, false, false, false, false, false, false] rfl rfl (one_of HT_.out (by kernel_rfl)) (by decide) (fun K hK => ?_)
      refine goes_ Try.func27 (by kernel_rfl) rfl #[.agg #[.int .i64 a0_0, .slice A0_1 l0_1.length c0_1], .agg #[.int .i64 a1_0, .slice A1_1 l1_1.length c1_1]] (by rfl) rfl rfl MP_ ?_
      with_reducible refine (warrantorref08_Same.calls kj5 a0_0 _ _ l0_1 a1_0 _ _ l1_1 t397 _ ?side1 ?side2 ?side3 ?side4 A33.out).mono ?_
      (case side1 => repeat (first | exact (Kd.C_below HR0_1.out HB.out) | (with_reducible refine Kd.C_alloc ?_ _) | (with_reducible refine Kd.C_drewN ?_ _) | (with_reducible refine Kd.C_drew ?_)))
      (case side2 => exact HC0_1.out)
      (case side3 => repeat (first | exact (Kd.C_below HR1_1.out HB.out) | (with_reducible refine Kd.C_alloc ?_ _) | (with_reducible refine Kd.C_drewN ?_ _) | (with_reducible refine Kd.C_drew ?_)))
      (case side4 => exact HC1_1.out)
      rintro e w52 ⟨rfl, hb⟩
      refine ⟨_, rfl, ?_⟩
      have n0_ := Aside0.mk (Kd.R_below (by (with_reducible repeat (first | apply Kd.R_alloc | apply Kd.R_drewN | apply Kd.R_drew)); exact HO391.out) hb)
      have n1_ := Aside0.mk (blk_below (g := gb382) (o := .cells #[.int .i64 a0_0, .slice A0_1 l0_1.length c0_1] 40 (0, 0)) (bk_ BK382.out) hb)
      have n2_ := Aside0.mk (blk_below (g := gb383) (o := .cells #[.int .i64 a1_0, .slice A1_1 l1_1.length c1_1] 40 (0, 0)) (bk_ BK383.out) hb)
      have n3_ := Aside0.mk (below_step HB_ hb)
      clear HO391
      clear BK382
      clear BK383
      clear HB
      have HO391 := n0_
      have BK382 := n1_
      have BK383 := n2_
      have HB := n3_
      clear n0_ n1_ n2_ n3_
      (try clear hb)
      (try clear hb2)
      (try clear hk)
      (try clear hi)
      refine hK.out _ _ ⟨(blk_cell BK382.out 0).trans rfl, (blk_cell BK382.out 1).trans rfl, (blk_cell BK383.out 0).trans rfl, (blk_cell BK383.out 1).trans rfl⟩ (fun hHeld => ?_)
      clear hK K
      refine norm_ (a' := ?_) ?_ ?_
      rotate_left
      · show Act.put _ (some 70) _ = _
        simp only [Act.put, List.setIfInBounds_toArray, List.set_cons_zero, List.set_cons_succ, i64_w, i32_w]
        rfl
      refine pure_ (i := 25) (N := some 71) (v := ?_) (a' := ?_) #[true, true, true, true, true, true, true, true, true, true, true, true, true, true, true, true, true, true, true, true, true, true, true, true, true, true, false, false, false, false, false, false, false, false, false, false, false, false, false, false, false, false, false, false, false, false, false, false, false, false, false] rfl rfl (any_of HT_.out (by kernel_rfl)) (fun _ _ _ h => h) (Or.inl ⟨by rfl, ?_⟩) ?_ ?_
      rotate_left
      · intro w'
        go_simp
        with_reducible rfl
      rotate_left
      · exact AP_
      refine pure_ (i := 26) (N := some 72) (v := ?_) (a' := ?_) #[true, true, true, true, true, true, true, true, true, true, true, true, true, true, true, true, true, true, true, true, true, true, true, true, true, true, true, false, false, false, false, false, false, false, false, false, false, false, false, false, false, false, false, false, false, false, false, false, false, false, false] rfl rfl (any_of HT_.out (by kernel_rfl)) (fun _ _ _ h => h) (Or.inl ⟨by rfl, ?_⟩) ?_ ?_
      rotate_left
      · intro w'
        go_simp
        with_reducible rfl
      rotate_left
      · exact AP_
      refine pure_ (i := 27) (N := some 73) (v := ?_) (a' := ?_) #[true, true, true, true, true, true, true, true, true, true, true, true, true, true, true, true, true, true, true, true, true, true, true, true, true, true, true, true, false, false, false, false, false, false, false, false, false, false, false, false, false, false, false, false, false, false, false, false, false, false, false] rfl rfl (any_of HT_.out (by kernel_rfl)) (fun _ _ _ h => h) (Or.inl ⟨by rfl, ?_⟩) ?_ ?_
      rotate_left
      · intro w'
        go_simp
        with_reducible rfl
      rotate_left
      · exact AP_
      refine pure_ (i := 30) (N := some 76) (v := ?_) (a' := ?_) #[true, true, true, true, true, true, true, true, true, true, true, true, true, true, true, true, true, true, true, true, true, true, true, true, true, true, true, true, false, false, true, false, false, false, false, false, false, false, false, false, false, false, false, false, false, false, false, false, false, false, false] rfl rfl (any_of HT_.out (by kernel_rfl)) (fun _ _ _ h => h) (Or.inl ⟨by rfl, ?_⟩) ?_ ?_
      rotate_left
      · intro w'
        go_simp
        with_reducible rfl
      rotate_left
      · exact AP_
      refine take_ (i := 28) (N := some 74) (v := ?_) (a' := ?_) #[true, true, true, true, true, true, true, true, true, true, true, true, true, true, true, true, true, true, true, true, true, true, true, true, true, true, true, true, true, false, true, false, false, false, false, false, false, false, false, false, false, false, false, false, false, false, false, false, false, false, false] rfl rfl (take_ofW HT_.out HW_.out (by kernel_rfl)) (fun _ _ _ h => h) (Or.inl ⟨by rfl, ?_⟩) hHeld ?_ ?_
      rotate_left
      · rintro w' ⟨s0, s1, s2, s3⟩
        go_simp
        with_reducible rfl
      rotate_left
      · exact AP_
      refine one_ (i := 29) (N := some 75) #[true, true, true, true, true, true, true, true, true, true, true, true, true, true, true, true, true, true, true, true, true, true, true, true, true, true, true, true, true, true, true, false, false, false, false, false, false, false, false, false, false, false, false, false, false, false, false, false, false, false, false] rfl rfl (one_of HT_.out (by kernel_rfl)) (by decide) (fun K hK => ?_)
      refine goes_ Try.func31 (by kernel_rfl) rfl #[.agg #[.int .i64 a0_0, .slice A0_1 l0_1.length c0_1]] (by rfl) rfl rfl MP_ ?_
      with_reducible refine (dbm_Empty.calls kj5 a0_0 _ _ l0_1 t398 _ ?side1 ?side2 A35.out).mono ?_
      (case side1 => repeat (first | exact (Kd.C_below HR0_1.out HB.out) | (with_reducible refine Kd.C_alloc ?_ _) | (with_reducible refine Kd.C_drewN ?_ _) | (with_reducible refine Kd.C_drew ?_)))
      (case side2 => exact HC0_1.out)
      rintro e w53 ⟨rfl, hb⟩
      refine ⟨_, rfl, ?_⟩
      have n0_ := Aside0.mk (Kd.R_below (by (with_reducible repeat (first | apply Kd.R_alloc | apply Kd.R_drewN | apply Kd.R_drew)); exact HO391.out) hb)
      have n1_ := Aside0.mk (blk_below (g := gb382) (o := .cells #[.int .i64 a0_0, .slice A0_1 l0_1.length c0_1] 40 (0, 0)) (bk_ BK382.out) hb)
      have n2_ := Aside0.mk (blk_below (g := gb383) (o := .cells #[.int .i64 a1_0, .slice A1_1 l1_1.length c1_1] 40 (0, 0)) (bk_ BK383.out) hb)
      have n3_ := Aside0.mk (below_step HB_ hb)
      clear HO391
      clear BK382
      clear BK383
      clear HB
      have HO391 := n0_
      have BK382 := n1_
      have BK383 := n2_
      have HB := n3_
      clear n0_ n1_ n2_ n3_
      (try clear hb)
      (try clear hb2)
      (try clear hk)
      (try clear hi)
      refine hK.out _ _ ⟨(blk_cell BK382.out 0).trans rfl, (blk_cell BK382.out 1).trans rfl, (blk_cell BK383.out 0).trans rfl, (blk_cell BK383.out 1).trans rfl⟩ (fun hHeld => ?_)
      clear hK K
      refine norm_ (a' := ?_) ?_ ?_
      rotate_left
      · show Act.put _ (some 75) _ = _
        simp only [Act.put, List.setIfInBounds_toArray, List.set_cons_zero, List.set_cons_succ, i64_w, i32_w]
        rfl
      refine pure_ (i := 31) (N := some 77) (v := ?_) (a' := ?_) #[true, true, true, true, true, true, true, true, true, true, true, true, true, true, true, true, true, true, true, true, true, true, true, true, true, true, true, true, true, true, true, true, false, false, false, false, false, false, false, false, false, false, false, false, false, false, false, false, false, false, false] rfl rfl (any_of HT_.out (by kernel_rfl)) (fun _ _ _ h => h) (Or.inl ⟨by rfl, ?_⟩) ?_ ?_
      rotate_left
      · intro w'
        go_simp
        with_reducible rfl
      rotate_left
      · exact AP_
      refine pure_ (i := 32) (N := some 78) (v := ?_) (a' := ?_) #[true, true, true, true, true, true, true, true, true, true, true, true, true, true, true, true, true, true, true, true, true, true, true, true, true, true, true, true, true, true, true, true, true, false, false, false, false, false, false, false, false, false, false, false, false, false, false, false, false, false, false] rfl rfl (any_of HT_.out (by kernel_rfl)) (fun _ _ _ h => h) (Or.inl ⟨by rfl, ?_⟩) ?_ ?_
      rotate_left
      · intro w'
        go_simp
        with_reducible rfl
      rotate_left
      · exact AP_
      refine take_ (i := 33) (N := some 79) (v := ?_) (a' := ?_) #[true, true, true, true, true, true, true, true, true, true, true, true, true, true, true, true, true, true, true, true, true, true, true, true, true, true, true, true, true, true, true, true, true, true, false, false, false, false, false, false, false, false, false, false, false, false, false, false, false, false, false] rfl rfl (take_ofW HT_.out HW_.out (by kernel_rfl)) (fun _ _ _ h => h) (Or.inl ⟨by rfl, ?_⟩) hHeld ?_ ?_
      rotate_left
      · rintro w' ⟨s0, s1, s2, s3⟩
        go_simp
        with_reducible rfl
      rotate_left
      · exact AP_
      refine pure_ (i := 34) (N := some 80) (v := ?_) (a' := ?_) #[true, true, true, true, true, true, true, true, true, true, true, true, true, true, true, true, true, true, true, true, true, true, true, true, true, true, true, true, true, true, true, true, true, true, true, false, false, false, false, false, false, false, false, false, false, false, false, false, false, false, false] rfl rfl (any_of HT_.out (by kernel_rfl)) (fun _ _ _ h => h) (Or.inl ⟨by rfl, ?_⟩) ?_ ?_
      rotate_left
      · intro w'
        go_simp
        with_reducible rfl
      rotate_left
      · exact AP_
      refine pure_ (i := 35) (N := some 81) (v := ?_) (a' := ?_) #[true, true, true, true, true, true, true, true, true, true, true, true, true, true, true, true, true, true, true, true, true, true, true, true, true, true, true, true, true, true, true, true, true, true, true, true, false, false, false, false, false, false, false, false, false, false, false, false, false, false, false] rfl rfl (any_of HT_.out (by kernel_rfl)) (fun _ _ _ h => h) (Or.inl ⟨by rfl, ?_⟩) ?_ ?_
      rotate_left
      · intro w'
        go_simp
        with_reducible rfl
      rotate_left
      · exact AP_
      refine pure_ (i := 36) (N := some 82) (v := ?_) (a' := ?_) #[true, true, true, true, true, true, true, true, true, true, true, true, true, true, true, true, true, true, true, true, true, true, true, true, true, true, true, true, true, true, true, true, true, true, true, true, true, false, false, false, false, false, false, false, false, false, false, false, false, false, false] rfl rfl (any_of HT_.out (by kernel_rfl)) (fun _ _ _ h => h) (Or.inl ⟨by rfl, ?_⟩) ?_ ?_
      rotate_left
      · intro w'
        go_simp
        with_reducible rfl
      rotate_left
      · exact AP_
      refine pure_ (i := 37) (N := some 83) (v := ?_) (a' := ?_) #[true, true, true, true, true, true, true, true, true, true, true, true, true, true, true, true, true, true, true, true, true, true, true, true, true, true, true, true, true, true, true, true, true, true, true, true, true, true, false, false, false, false, false, false, false, false, false, false, false, false, false] rfl rfl (any_of HT_.out (by kernel_rfl)) (fun _ _ _ h => h) (Or.inl ⟨by rfl, ?_⟩) ?_ ?_
      rotate_left
      · intro w'
        go_simp
        with_reducible rfl
      rotate_left
      · exact AP_
      refine pure_ (i := 38) (N := some 84) (v := ?_) (a' := ?_) #[true, true, true, true, true, true, true, true, true, true, true, true, true, true, true, true, true, true, true, true, true, true, true, true, true, true, true, true, true, true, true, true, true, true, true, true, true, true, true, false, false, false, false, false, false, false, false, false, false, false, false] rfl rfl (any_of HT_.out (by kernel_rfl)) (fun _ _ _ h => h) (Or.inl ⟨by rfl, ?_⟩) ?_ ?_
      rotate_left
      · intro w'
        go_simp
        with_reducible rfl
      rotate_left
      · exact AP_
      refine pure_ (i := 39) (N := some 85) (v := ?_) (a' := ?_) #[true, true, true, true, true, true, true, true, true, true, true, true, true, true, true, true, true, true, true, true, true, true, true, true, true, true, true, true, true, true, true, true, true, true, true, true, true, true, true, true, false, false, false, false, false, false, false, false, false, false, false] rfl rfl (any_of HT_.out (by kernel_rfl)) (fun _ _ _ h => h) (Or.inl ⟨by rfl, ?_⟩) ?_ ?_
      rotate_left
      · intro w'
        go_simp
        with_reducible rfl
      rotate_left
      · exact AP_
      refine pure_ (i := 41) (N := some 87) (v := ?_) (a' := ?_) #[true, true, true, true, true, true, true, true, true, true, true, true, true, true, true, true, true, true, true, true, true, true, true, true, true, true, true, true, true, true, true, true, true, true, true, true, true, true, true, true, false, true, false, false, false, false, false, false, false, false, false] rfl rfl (any_of HT_.out (by kernel_rfl)) (fun _ _ _ h => h) (Or.inl ⟨by rfl, ?_⟩) ?_ ?_
      rotate_left
      · intro w'
        go_simp
        with_reducible rfl
      rotate_left
      · exact AP_
      refine pure_ (i := 43) (N := some 89) (v := ?_) (a' := ?_) #[true, true, true, true, true, true, true, true, true, true, true, true, true, true, true, true, true, true, true, true, true, true, true, true, true, true, true, true, true, true, true, true, true, true, true, true, true, true, true, true, false, true, false, true, false, false, false, false, false, false, false] rfl rfl (any_of HT_.out (by kernel_rfl)) (fun _ _ _ h => h) (Or.inl ⟨by rfl, ?_⟩) ?_ ?_
      rotate_left
      · intro w'
        go_simp
        with_reducible rfl
      rotate_left
      · exact AP_
      refine take_ (i := 40) (N := some 86) (v := ?_) (a' := ?_) #[true, true, true, true, true, true, true, true, true, true, true, true, true, true, true, true, true, true, true, true, true, true, true, true, true, true, true, true, true, true, true, true, true, true, true, true, true, true, true, true, true, true, false, true, false, false, false, false, false, false, false] rfl rfl (take_ofW HT_.out HW_.out (by kernel_rfl)) (fun _ _ _ h => h) (Or.inl ⟨by rfl, ?_⟩) hHeld ?_ ?_
      rotate_left
      · rintro w' ⟨s0, s1, s2, s3⟩
        go_simp
        with_reducible rfl
      rotate_left
      · exact AP_
      refine one_ (i := 42) (N := some 88) #[true, true, true, true, true, true, true, true, true, true, true, true, true, true, true, true, true, true, true, true, true, true, true, true, true, true, true, true, true, true, true, true, true, true, true, true, true, true, true, true, true, true, true, true, false, false, false, false, false, false, false] rfl rfl (one_of HT_.out (by kernel_rfl)) (by decide) (fun K hK => ?_)
      refine goes_ Try.func35 (by kernel_rfl) rfl #[.agg #[.int .i64 a0_0, .slice A0_1 l0_1.length c0_1], .slice A2 l2.length c2] (by rfl) rfl rfl MP_ ?_
      with_reducible refine (dbm_Has.calls kj5 a0_0 _ _ l0_1 _ _ l2 t399 _ ?side1 ?side2 ?side3 ?side4 A37.out).mono ?_
      (case side1 => repeat (first | exact (Kd.C_below HR0_1.out HB.out) | (with_reducible refine Kd.C_alloc ?_ _) | (with_reducible refine Kd.C_drewN ?_ _) | (with_reducible refine Kd.C_drew ?_)))
      (case side2 => exact HC0_1.out)
      (case side3 => repeat (first | exact (Kd.C_below HR2.out HB.out) | (with_reducible refine Kd.C_alloc ?_ _) | (with_reducible refine Kd.C_drewN ?_ _) | (with_reducible refine Kd.C_drew ?_)))
      (case side4 => exact HC2.out)
      rintro e w54 ⟨rfl, hb⟩
      refine ⟨_, rfl, ?_⟩
      have n0_ := Aside0.mk (Kd.R_below (by (with_reducible repeat (first | apply Kd.R_alloc | apply Kd.R_drewN | apply Kd.R_drew)); exact HO391.out) hb)
      have n1_ := Aside0.mk (blk_below (g := gb382) (o := .cells #[.int .i64 a0_0, .slice A0_1 l0_1.length c0_1] 40 (0, 0)) (bk_ BK382.out) hb)
      have n2_ := Aside0.mk (blk_below (g := gb383) (o := .cells #[.int .i64 a1_0, .slice A1_1 l1_1.length c1_1] 40 (0, 0)) (bk_ BK383.out) hb)
      have n3_ := Aside0.mk (below_step HB_ hb)
      clear HO391
      clear BK382
      clear BK383
      clear HB
      have HO391 := n0_
      have BK382 := n1_
      have BK383 := n2_
      have HB := n3_
      clear n0_ n1_ n2_ n3_
      (try clear hb)
      (try clear hb2)
      (try clear hk)
      (try clear hi)
      refine hK.out _ _ ⟨(blk_cell BK382.out 0).trans rfl, (blk_cell BK382.out 1).trans rfl, (blk_cell BK383.out 0).trans rfl, (blk_cell BK383.out 1).trans rfl⟩ (fun hHeld => ?_)
      clear hK K
      refine norm_ (a' := ?_) ?_ ?_
      rotate_left
      · show Act.put _ (some 88) _ = _
        simp only [Act.put, List.setIfInBounds_toArray, List.set_cons_zero, List.set_cons_succ, i64_w, i32_w]
        rfl
      refine pure_ (i := 44) (N := some 90) (v := ?_) (a' := ?_) #[true, true, true, true, true, true, true, true, true, true, true, true, true, true, true, true, true, true, true, true, true, true, true, true, true, true, true, true, true, true, true, true, true, true, true, true, true, true, true, true, true, true, true, true, true, false, false, false, false, false, false] rfl rfl (any_of HT_.out (by kernel_rfl)) (fun _ _ _ h => h) (Or.inl ⟨by rfl, ?_⟩) ?_ ?_
      rotate_left
      · intro w'
        go_simp
        with_reducible rfl
      rotate_left
      · exact AP_
      refine pure_ (i := 46) (N := some 92) (v := ?_) (a' := ?_) #[true, true, true, true, true, true, true, true, true, true, true, true, true, true, true, true, true, true, true, true, true, true, true, true, true, true, true, true, true, true, true, true, true, true, true, true, true, true, true, true, true, true, true, true, true, false, true, false, false, false, false] rfl rfl (any_of HT_.out (by kernel_rfl)) (fun _ _ _ h => h) (Or.inl ⟨by rfl, ?_⟩) ?_ ?_
      rotate_left
      · intro w'
        go_simp
        with_reducible rfl
      rotate_left
      · exact AP_
      refine take_ (i := 45) (N := some 91) (v := ?_) (a' := ?_) #[true, true, true, true, true, true, true, true, true, true, true, true, true, true, true, true, true, true, true, true, true, true, true, true, true, true, true, true, true, true, true, true, true, true, true, true, true, true, true, true, true, true, true, true, true, true, true, false, false, false, false] rfl rfl (take_ofW HT_.out HW_.out (by kernel_rfl)) (fun _ _ _ h => h) (Or.inl ⟨by rfl, ?_⟩) hHeld ?_ ?_
      rotate_left
      · rintro w' ⟨s0, s1, s2, s3⟩
        go_simp
        with_reducible rfl
      rotate_left
      · exact AP_
      refine one_ (i := 47) (N := some 93) #[true, true, true, true, true, true, true, true, true, true, true, true, true, true, true, true, true, true, true, true, true, true, true, true, true, true, true, true, true, true, true, true, true, true, true, true, true, true, true, true, true, true, true, true, true, true, true, true, false, false, false] rfl rfl (one_of HT_.out (by kernel_rfl)) (by decide) (fun K hK => ?_)
      refine goes_ Try.func36 (by kernel_rfl) rfl #[.agg #[.int .i64 a0_0, .slice A0_1 l0_1.length c0_1], .slice A2 l2.length c2] (by rfl) rfl rfl MP_ ?_
      with_reducible refine (warrantorref08_Has.calls kj5 a0_0 _ _ l0_1 _ _ l2 t400 _ ?side1 ?side2 ?side3 ?side4 A38.out).mono ?_
      (case side1 => repeat (first | exact (Kd.C_below HR0_1.out HB.out) | (with_reducible refine Kd.C_alloc ?_ _) | (with_reducible refine Kd.C_drewN ?_ _) | (with_reducible refine Kd.C_drew ?_)))
      (case side2 => exact HC0_1.out)
      (case side3 => repeat (first | exact (Kd.C_below HR2.out HB.out) | (with_reducible refine Kd.C_alloc ?_ _) | (with_reducible refine Kd.C_drewN ?_ _) | (with_reducible refine Kd.C_drew ?_)))
      (case side4 => exact HC2.out)
      rintro e w55 ⟨rfl, hb⟩
      refine ⟨_, rfl, ?_⟩
      have n0_ := Aside0.mk (Kd.R_below (by (with_reducible repeat (first | apply Kd.R_alloc | apply Kd.R_drewN | apply Kd.R_drew)); exact HO391.out) hb)
      have n1_ := Aside0.mk (blk_below (g := gb382) (o := .cells #[.int .i64 a0_0, .slice A0_1 l0_1.length c0_1] 40 (0, 0)) (bk_ BK382.out) hb)
      have n2_ := Aside0.mk (blk_below (g := gb383) (o := .cells #[.int .i64 a1_0, .slice A1_1 l1_1.length c1_1] 40 (0, 0)) (bk_ BK383.out) hb)
      have n3_ := Aside0.mk (below_step HB_ hb)
      clear HO391
      clear BK382
      clear BK383
      clear HB
      have HO391 := n0_
      have BK382 := n1_
      have BK383 := n2_
      have HB := n3_
      clear n0_ n1_ n2_ n3_
      (try clear hb)
      (try clear hb2)
      (try clear hk)
      (try clear hi)
      refine hK.out _ _ ⟨(blk_cell BK382.out 0).trans rfl, (blk_cell BK382.out 1).trans rfl, (blk_cell BK383.out 0).trans rfl, (blk_cell BK383.out 1).trans rfl⟩ (fun hHeld => ?_)
      clear hK K
      refine norm_ (a' := ?_) ?_ ?_
      rotate_left
      · show Act.put _ (some 93) _ = _
        simp only [Act.put, List.setIfInBounds_toArray, List.set_cons_zero, List.set_cons_succ, i64_w, i32_w]
        rfl
      refine pure_ (i := 48) (N := some 94) (v := ?_) (a' := ?_) #[true, true, true, true, true, true, true, true, true, true, true, true, true, true, true, true, true, true, true, true, true, true, true, true, true, true, true, true, true, true, true, true, true, true, true, true, true, true, true, true, true, true, true, true, true, true, true, true, true, false, false] rfl rfl (any_of HT_.out (by kernel_rfl)) (fun _ _ _ h => h) (Or.inl ⟨by rfl, ?_⟩) ?_ ?_
      rotate_left
      · intro w'
        go_simp
        with_reducible rfl
      rotate_left
      · exact AP_
      refine pure_ (i := 49) (N := some 95) (v := ?_) (a' := ?_) #[true, true, true, true, true, true, true, true, true, true, true, true, true, true, true, true, true, true, true, true, true, true, true, true, true, true, true, true, true, true, true, true, true, true, true, true, true, true, true, true, true, true, true, true, true, true, true, true, true, true, false] rfl rfl (any_of HT_.out (by kernel_rfl)) (fun _ _ _ h => h) (Or.inl ⟨by rfl, ?_⟩) ?_ ?_
      rotate_left
      · intro w'
        go_simp
        with_reducible rfl
      rotate_left
      · exact AP_
      refine pure_ (i := 50) (N := some 96) (v := ?_) (a' := ?_) #[true, true, true, true, true, true, true, true, true, true, true, true, true, true, true, true, true, true, true, true, true, true, true, true, true, true, true, true, true, true, true, true, true, true, true, true, true, true, true, true, true, true, true, true, true, true, true, true, true, true, true] rfl rfl (any_of HT_.out (by kernel_rfl)) (fun _ _ _ h => h) (Or.inl ⟨by rfl, ?_⟩) ?_ ?_
      rotate_left
      · intro w'
        go_simp
        with_reducible rfl
      rotate_left
      · exact AP_
      refine done_ (done_of HT_.out (by kernel_rfl)) ?_
      go_upto_region 8 with (fail)
      go_cut [16] (fun v16 wc => ∃ (kq : Nat) (x16_39 : Bool), v16 = .bool x16_39 ∧ Aside0 (warrantorlaw08_DbmChecks_v1.j1 kq a3 a4 t387 t388 t389 t392 x16_39 a0_0 l0_1 = some r) ∧ Aside0 (kq ≤ kj5) ∧ Aside0 (Kd.R (Kd.int .i64) 3 wc w.heap.size (fun _ => True) v390 t389) ∧ Aside0 (wc.heap[gb382]? = some (.cells #[.int .i64 a0_0, (.slice A0_1 l0_1.length c0_1)] 40 (0, 0))) ∧ Aside0 (wc.heap[gb383]? = some (.cells #[.int .i64 a1_0, (.slice A1_1 l1_1.length c1_1)] 40 (0, 0))) ∧ Aside0 (Below w.heap.size w wc))
      case first =>
        have H := HC40.out
        clear HC40
        by_cases c56 : (l0_1.length : Int) > 0
        rotate_left
        · rw [if_neg c56] at H
          have c56b0 : decide (0 < (l0_1.length : Int)) = false := decide_eq_false c56
          have c56b1 : decide (0 < l0_1.length) = false := decide_eq_false (by omega)
          clear c56
          (first | rw [c56b0] | (simp only [i64_w, i32_w]; rw [c56b0]) | skip)
          have H' := Aside0.mk H
          clear H
          have hnb62 := NB382_383.out
          have hnc62 := NB383_382.out
          have hcz63_0 : w55.cell? ⟨gb382, 0, none⟩ = some (.int .i64 a0_0) := (blk_cell BK382.out 0).trans rfl
          have hcz63_1 : w55.cell? ⟨gb382, 1, none⟩ = some (.slice A0_1 l0_1.length c0_1) := (blk_cell BK382.out 1).trans rfl
          have hfz63_0 := blk_frozen BK382.out 0
          have hfz63_1 := blk_frozen BK382.out 1
          go_wp2
          go_meet
          case rel => exact ⟨_, (false), (by first | rfl | (simp; done) | (simp [*]; done)), H', ⟨by have := HJ5.out; first | omega | exact Nat.le_refl _⟩, ⟨by (with_reducible repeat (first | apply Kd.R_alloc | apply Kd.R_drewN | apply Kd.R_drew)); exact HO391.out⟩, ⟨by (with_reducible repeat (first | refine blk_drewN ?_ _ | refine blk_drew ?_ | refine blk_alloc ?_ _)); exact BK382.out⟩, ⟨by (with_reducible repeat (first | refine blk_drewN ?_ _ | refine blk_drew ?_ | refine blk_alloc ?_ _)); exact BK383.out⟩, ⟨HB_⟩⟩
        rw [if_pos c56] at H
        have c56b0 : decide (0 < (l0_1.length : Int)) = true := decide_eq_true c56
        have c56b1 : decide (0 < l0_1.length) = true := decide_eq_true (by omega)
        clear c56
        (first | rw [c56b0] | (simp only [i64_w, i32_w]; rw [c56b0]) | skip)
        by_cases c57 : a4 ≥ 0
        rotate_left
        · rw [if_neg c57] at H
          have c57b0 : decide (0 ≤ a4) = false := decide_eq_false c57
          clear c57
          have H' := Aside0.mk H
          clear H
          have hnb60 := NB382_383.out
          have hnc60 := NB383_382.out
          have hcz61_0 : w55.cell? ⟨gb382, 0, none⟩ = some (.int .i64 a0_0) := (blk_cell BK382.out 0).trans rfl
          have hcz61_1 : w55.cell? ⟨gb382, 1, none⟩ = some (.slice A0_1 l0_1.length c0_1) := (blk_cell BK382.out 1).trans rfl
          have hfz61_0 := blk_frozen BK382.out 0
          have hfz61_1 := blk_frozen BK382.out 1
          go_wp2
          go_meet
          case rel => exact ⟨_, (false), (by first | rfl | (simp; done) | (simp [*]; done)), H', ⟨by have := HJ5.out; first | omega | exact Nat.le_refl _⟩, ⟨by (with_reducible repeat (first | apply Kd.R_alloc | apply Kd.R_drewN | apply Kd.R_drew)); exact HO391.out⟩, ⟨by (with_reducible repeat (first | refine blk_drewN ?_ _ | refine blk_drew ?_ | refine blk_alloc ?_ _)); exact BK382.out⟩, ⟨by (with_reducible repeat (first | refine blk_drewN ?_ _ | refine blk_drew ?_ | refine blk_alloc ?_ _)); exact BK383.out⟩, ⟨HB_⟩⟩
        rw [if_pos c57] at H
        have c57b0 : decide (0 ≤ a4) = true := decide_eq_true c57
        clear c57
        have H' := Aside0.mk H
        clear H
        have hnb58 := NB382_383.out
        have hnc58 := NB383_382.out
        have hcz59_0 : w55.cell? ⟨gb382, 0, none⟩ = some (.int .i64 a0_0) := (blk_cell BK382.out 0).trans rfl
        have hcz59_1 : w55.cell? ⟨gb382, 1, none⟩ = some (.slice A0_1 l0_1.length c0_1) := (blk_cell BK382.out 1).trans rfl
        have hfz59_0 := blk_frozen BK382.out 0
        have hfz59_1 := blk_frozen BK382.out 1
        go_wp2
        go_meet
        case rel => exact ⟨_, (decide (a4 ≤ a0_0)), (by first | rfl | (simp; done) | (simp [*]; done)), H', ⟨by have := HJ5.out; first | omega | exact Nat.le_refl _⟩, ⟨by (with_reducible repeat (first | apply Kd.R_alloc | apply Kd.R_drewN | apply Kd.R_drew)); exact HO391.out⟩, ⟨by (with_reducible repeat (first | refine blk_drewN ?_ _ | refine blk_drew ?_ | refine blk_alloc ?_ _)); exact BK382.out⟩, ⟨by (with_reducible repeat (first | refine blk_drewN ?_ _ | refine blk_drew ?_ | refine blk_alloc ?_ _)); exact BK383.out⟩, ⟨HB_⟩⟩
      case rest =>
        clear HC40
        try clear c1
        try clear c2
        try clear p2
        try clear c3
        try clear c5
        try clear c6
        try clear c26
        try clear c27
        try clear c30
        try clear c31
        try clear c35
        try clear c36
        try clear c56
        try clear c56b0
        try clear c56b1
        try clear c57
        try clear c57b0
        try clear c58
        try clear c60
        try clear c62
        try clear hcz59_0
        try clear hcz59_1
        try clear hcz61_0
        try clear hcz61_1
        try clear hcz63_0
        try clear hcz63_1
        try clear hfz59_0
        try clear hfz59_1
        try clear hfz61_0
        try clear hfz61_1
        try clear hfz63_0
        try clear hfz63_1
        obtain ⟨kq, x16_39, rfl, HA, HJ39, HO_13, BK382, BK383, HB⟩ := hcut
        cases kq with
        | zero => exact absurd HA.out (by simp [warrantorlaw08_DbmChecks_v1.j1])
        | succ kj39 =>
          have H := HA.out
          clear HA
          simp only [warrantorlaw08_DbmChecks_v1.j1] at H
          have HC64 := Aside0.mk H
          clear H
          go_upto_region 9 with (fail)
          go_cut [148] (fun v148 wc => ∃ (kq : Nat) (x148_63 : Bool), v148 = .bool x148_63 ∧ Aside0 (warrantorlaw08_DbmChecks_v1.j2 kq a3 a4 t387 t388 t389 x148_63 a0_0 l0_1 = some r) ∧ Aside0 (kq ≤ kj39) ∧ Aside0 (Kd.R (Kd.int .i64) 3 wc w.heap.size (fun _ => True) v390 t389) ∧ Aside0 (wc.heap[gb382]? = some (.cells #[.int .i64 a0_0, (.slice A0_1 l0_1.length c0_1)] 40 (0, 0))) ∧ Aside0 (wc.heap[gb383]? = some (.cells #[.int .i64 a1_0, (.slice A1_1 l1_1.length c1_1)] 40 (0, 0))) ∧ Aside0 (Below w.heap.size w wc))
          case first =>
            have H := HC64.out
            clear HC64
            by_cases c65 : (t392 != x16_39) = true
            · rw [if_pos c65] at H
              exact absurd H (by simp)
            rw [if_neg c65] at H
            have c65b0 : (t392 != x16_39) = false := by simpa using c65
            (try (have c65b1 : decide (t392 = x16_39) = true := by simpa using c65))
            (try (have c65b2 : (t392 == x16_39) = true := by simpa using c65))
            clear c65
            (first | rw [c65b0] | (simp only [i64_w, i32_w]; rw [c65b0]) | skip)
            by_cases c66 : x16_39 = true
            rotate_left
            · replace c66 := Bool.eq_false_iff.mpr c66
              subst c66
              have H1 : (none) = some r := by rw [if_neg (show ¬ (false = true) by decide)] at H; exact H
              clear H
              have H := H1
              clear H1
              exact absurd H (by simp)
            subst c66
            have H1 : (if a3 ≥ 0 then (if (t388 != (decide (a3 ≤ a0_0))) = true then (none) else (if t388 = true then (if t392 = true then (warrantorlaw08_DbmChecks_v1.j2 kj39 a3 a4 t387 t388 t389 false a0_0 l0_1) else (warrantorlaw08_DbmChecks_v1.j2 kj39 a3 a4 t387 t388 t389 ((t389.length : Int) != 0) a0_0 l0_1)) else (if t387 = 0 then (if t392 = true then (warrantorlaw08_DbmChecks_v1.j2 kj39 a3 a4 t387 t388 t389 false a0_0 l0_1) else (warrantorlaw08_DbmChecks_v1.j2 kj39 a3 a4 t387 t388 t389 ((t389.length : Int) != 0) a0_0 l0_1)) else (none)))) else (if (t388 != false) = true then (none) else (if t388 = true then (if t392 = true then (warrantorlaw08_DbmChecks_v1.j2 kj39 a3 a4 t387 t388 t389 false a0_0 l0_1) else (warrantorlaw08_DbmChecks_v1.j2 kj39 a3 a4 t387 t388 t389 ((t389.length : Int) != 0) a0_0 l0_1)) else (if t387 = 0 then (if t392 = true then (warrantorlaw08_DbmChecks_v1.j2 kj39 a3 a4 t387 t388 t389 false a0_0 l0_1) else (warrantorlaw08_DbmChecks_v1.j2 kj39 a3 a4 t387 t388 t389 ((t389.length : Int) != 0) a0_0 l0_1)) else (none))))) = some r := by rw [if_pos rfl] at H; exact H
            clear H
            have H := H1
            clear H1
            by_cases c67 : a3 ≥ 0
            rotate_left
            · rw [if_neg c67] at H
              have c67b0 : decide (0 ≤ a3) = false := decide_eq_false c67
              clear c67
              by_cases c83 : (t388 != false) = true
              · rw [if_pos c83] at H
                exact absurd H (by simp)
              rw [if_neg c83] at H
              have c83b0 : (t388 != false) = false := by simpa using c83
              (try (have c83b1 : decide (t388 = false) = true := by simpa using c83))
              (try (have c83b2 : (t388 == false) = true := by simpa using c83))
              clear c83
              by_cases c84 : t388 = true
              · subst c84
                have H1 : (if t392 = true then (warrantorlaw08_DbmChecks_v1.j2 kj39 a3 a4 t387 true t389 false a0_0 l0_1) else (warrantorlaw08_DbmChecks_v1.j2 kj39 a3 a4 t387 true t389 ((t389.length : Int) != 0) a0_0 l0_1)) = some r := by rw [if_pos rfl] at H; exact H
                clear H
                have H := H1
                clear H1
                by_cases c85 : t392 = true
                · subst c85
                  have H1 : (warrantorlaw08_DbmChecks_v1.j2 kj39 a3 a4 t387 true t389 false a0_0 l0_1) = some r := by rw [if_pos rfl] at H; exact H
                  clear H
                  have H := H1
                  clear H1
                  have H' := Aside0.mk H
                  clear H
                  go_wp2
                  go_meet
                  case rel => exact ⟨_, (false), (by first | rfl | (simp; done) | (simp [*]; done)), H', ⟨by have := HJ5.out; have := HJ39.out; first | omega | exact Nat.le_refl _⟩, ⟨by (with_reducible repeat (first | apply Kd.R_alloc | apply Kd.R_drewN | apply Kd.R_drew)); exact HO_13.out⟩, ⟨by (with_reducible repeat (first | refine blk_drewN ?_ _ | refine blk_drew ?_ | refine blk_alloc ?_ _)); exact BK382.out⟩, ⟨by (with_reducible repeat (first | refine blk_drewN ?_ _ | refine blk_drew ?_ | refine blk_alloc ?_ _)); exact BK383.out⟩, ⟨HB_⟩⟩
                replace c85 := Bool.eq_false_iff.mpr c85
                subst c85
                have H1 : (warrantorlaw08_DbmChecks_v1.j2 kj39 a3 a4 t387 true t389 ((t389.length : Int) != 0) a0_0 l0_1) = some r := by rw [if_neg (show ¬ (false = true) by decide)] at H; exact H
                clear H
                have H := H1
                clear H1
                have H' := Aside0.mk H
                clear H
                obtain ⟨Ao86, co86, eo86⟩ := Kd.R_slice HO_13.out
                subst eo86
                go_wp2
                go_meet
                case rel => exact ⟨_, (((t389.length : Int) != 0)), (by first | rfl | (simp; done) | (simp [*]; done)), H', ⟨by have := HJ5.out; have := HJ39.out; first | omega | exact Nat.le_refl _⟩, ⟨by (with_reducible repeat (first | apply Kd.R_alloc | apply Kd.R_drewN | apply Kd.R_drew)); exact HO_13.out⟩, ⟨by (with_reducible repeat (first | refine blk_drewN ?_ _ | refine blk_drew ?_ | refine blk_alloc ?_ _)); exact BK382.out⟩, ⟨by (with_reducible repeat (first | refine blk_drewN ?_ _ | refine blk_drew ?_ | refine blk_alloc ?_ _)); exact BK383.out⟩, ⟨HB_⟩⟩
              replace c84 := Bool.eq_false_iff.mpr c84
              subst c84
              have H1 : (if t387 = 0 then (if t392 = true then (warrantorlaw08_DbmChecks_v1.j2 kj39 a3 a4 t387 false t389 false a0_0 l0_1) else (warrantorlaw08_DbmChecks_v1.j2 kj39 a3 a4 t387 false t389 ((t389.length : Int) != 0) a0_0 l0_1)) else (none)) = some r := by rw [if_neg (show ¬ (false = true) by decide)] at H; exact H
              clear H
              have H := H1
              clear H1
              by_cases c87 : t387 = 0
              rotate_left
              · rw [if_neg c87] at H
                exact absurd H (by simp)
              rw [if_pos c87] at H
              have c87b0 : (t387 == 0) = true := beq_iff_eq.mpr c87
              have c87b1 : (t387 != 0) = false := bne_eq_false_iff_eq.mpr c87
              clear c87
              by_cases c88 : t392 = true
              · subst c88
                have H1 : (warrantorlaw08_DbmChecks_v1.j2 kj39 a3 a4 t387 false t389 false a0_0 l0_1) = some r := by rw [if_pos rfl] at H; exact H
                clear H
                have H := H1
                clear H1
                have H' := Aside0.mk H
                clear H
                go_wp2
                go_meet
                case rel => exact ⟨_, (false), (by first | rfl | (simp; done) | (simp [*]; done)), H', ⟨by have := HJ5.out; have := HJ39.out; first | omega | exact Nat.le_refl _⟩, ⟨by (with_reducible repeat (first | apply Kd.R_alloc | apply Kd.R_drewN | apply Kd.R_drew)); exact HO_13.out⟩, ⟨by (with_reducible repeat (first | refine blk_drewN ?_ _ | refine blk_drew ?_ | refine blk_alloc ?_ _)); exact BK382.out⟩, ⟨by (with_reducible repeat (first | refine blk_drewN ?_ _ | refine blk_drew ?_ | refine blk_alloc ?_ _)); exact BK383.out⟩, ⟨HB_⟩⟩
              replace c88 := Bool.eq_false_iff.mpr c88
              subst c88
              have H1 : (warrantorlaw08_DbmChecks_v1.j2 kj39 a3 a4 t387 false t389 ((t389.length : Int) != 0) a0_0 l0_1) = some r := by rw [if_neg (show ¬ (false = true) by decide)] at H; exact H
              clear H
              have H := H1
              clear H1
              have H' := Aside0.mk H
              clear H
              obtain ⟨Ao89, co89, eo89⟩ := Kd.R_slice HO_13.out
              subst eo89
              go_wp2
              go_meet
              case rel => exact ⟨_, (((t389.length : Int) != 0)), (by first | rfl | (simp; done) | (simp [*]; done)), H', ⟨by have := HJ5.out; have := HJ39.out; first | omega | exact Nat.le_refl _⟩, ⟨by (with_reducible repeat (first | apply Kd.R_alloc | apply Kd.R_drewN | apply Kd.R_drew)); exact HO_13.out⟩, ⟨by (with_reducible repeat (first | refine blk_drewN ?_ _ | refine blk_drew ?_ | refine blk_alloc ?_ _)); exact BK382.out⟩, ⟨by (with_reducible repeat (first | refine blk_drewN ?_ _ | refine blk_drew ?_ | refine blk_alloc ?_ _)); exact BK383.out⟩, ⟨HB_⟩⟩
            rw [if_pos c67] at H
            have c67b0 : decide (0 ≤ a3) = true := decide_eq_true c67
            clear c67
            by_cases c68 : (t388 != (decide (a3 ≤ a0_0))) = true
            · rw [if_pos c68] at H
              exact absurd H (by simp)
            rw [if_neg c68] at H
            have c68b0 : (t388 != (decide (a3 ≤ a0_0))) = false := by simpa using c68
            (try (have c68b1 : decide (t388 = (decide (a3 ≤ a0_0))) = true := by simpa using c68))
            (try (have c68b2 : (t388 == (decide (a3 ≤ a0_0))) = true := by simpa using c68))
            clear c68
            by_cases c69 : t388 = true
            · subst c69
              have H1 : (if t392 = true then (warrantorlaw08_DbmChecks_v1.j2 kj39 a3 a4 t387 true t389 false a0_0 l0_1) else (warrantorlaw08_DbmChecks_v1.j2 kj39 a3 a4 t387 true t389 ((t389.length : Int) != 0) a0_0 l0_1)) = some r := by rw [if_pos rfl] at H; exact H
              clear H
              have H := H1
              clear H1
              by_cases c70 : t392 = true
              · subst c70
                have H1 : (warrantorlaw08_DbmChecks_v1.j2 kj39 a3 a4 t387 true t389 false a0_0 l0_1) = some r := by rw [if_pos rfl] at H; exact H
                clear H
                have H := H1
                clear H1
                have H' := Aside0.mk H
                clear H
                have hnb71 := NB382_383.out
                have hnc71 := NB383_382.out
                have hcz72_0 : wc.cell? ⟨gb382, 0, none⟩ = some (.int .i64 a0_0) := (blk_cell BK382.out 0).trans rfl
                have hcz72_1 : wc.cell? ⟨gb382, 1, none⟩ = some (.slice A0_1 l0_1.length c0_1) := (blk_cell BK382.out 1).trans rfl
                have hfz72_0 := blk_frozen BK382.out 0
                have hfz72_1 := blk_frozen BK382.out 1
                go_wp2
                go_meet
                case rel => exact ⟨_, (false), (by first | rfl | (simp; done) | (simp [*]; done)), H', ⟨by have := HJ5.out; have := HJ39.out; first | omega | exact Nat.le_refl _⟩, ⟨by (with_reducible repeat (first | apply Kd.R_alloc | apply Kd.R_drewN | apply Kd.R_drew)); exact HO_13.out⟩, ⟨by (with_reducible repeat (first | refine blk_drewN ?_ _ | refine blk_drew ?_ | refine blk_alloc ?_ _)); exact BK382.out⟩, ⟨by (with_reducible repeat (first | refine blk_drewN ?_ _ | refine blk_drew ?_ | refine blk_alloc ?_ _)); exact BK383.out⟩, ⟨HB_⟩⟩
              replace c70 := Bool.eq_false_iff.mpr c70
              subst c70
              have H1 : (warrantorlaw08_DbmChecks_v1.j2 kj39 a3 a4 t387 true t389 ((t389.length : Int) != 0) a0_0 l0_1) = some r := by rw [if_neg (show ¬ (false = true) by decide)] at H; exact H
              clear H
              have H := H1
              clear H1
              have H' := Aside0.mk H
              clear H
              have hnb73 := NB382_383.out
              have hnc73 := NB383_382.out
              have hcz74_0 : wc.cell? ⟨gb382, 0, none⟩ = some (.int .i64 a0_0) := (blk_cell BK382.out 0).trans rfl
              have hcz74_1 : wc.cell? ⟨gb382, 1, none⟩ = some (.slice A0_1 l0_1.length c0_1) := (blk_cell BK382.out 1).trans rfl
              have hfz74_0 := blk_frozen BK382.out 0
              have hfz74_1 := blk_frozen BK382.out 1
              obtain ⟨Ao75, co75, eo75⟩ := Kd.R_slice HO_13.out
              subst eo75
              go_wp2
              go_meet
              case rel => exact ⟨_, (((t389.length : Int) != 0)), (by first | rfl | (simp; done) | (simp [*]; done)), H', ⟨by have := HJ5.out; have := HJ39.out; first | omega | exact Nat.le_refl _⟩, ⟨by (with_reducible repeat (first | apply Kd.R_alloc | apply Kd.R_drewN | apply Kd.R_drew)); exact HO_13.out⟩, ⟨by (with_reducible repeat (first | refine blk_drewN ?_ _ | refine blk_drew ?_ | refine blk_alloc ?_ _)); exact BK382.out⟩, ⟨by (with_reducible repeat (first | refine blk_drewN ?_ _ | refine blk_drew ?_ | refine blk_alloc ?_ _)); exact BK383.out⟩, ⟨HB_⟩⟩
            replace c69 := Bool.eq_false_iff.mpr c69
            subst c69
            have H1 : (if t387 = 0 then (if t392 = true then (warrantorlaw08_DbmChecks_v1.j2 kj39 a3 a4 t387 false t389 false a0_0 l0_1) else (warrantorlaw08_DbmChecks_v1.j2 kj39 a3 a4 t387 false t389 ((t389.length : Int) != 0) a0_0 l0_1)) else (none)) = some r := by rw [if_neg (show ¬ (false = true) by decide)] at H; exact H
            clear H
            have H := H1
            clear H1
            by_cases c76 : t387 = 0
            rotate_left
            · rw [if_neg c76] at H
              exact absurd H (by simp)
            rw [if_pos c76] at H
            have c76b0 : (t387 == 0) = true := beq_iff_eq.mpr c76
            have c76b1 : (t387 != 0) = false := bne_eq_false_iff_eq.mpr c76
            clear c76
            by_cases c77 : t392 = true
            · subst c77
              have H1 : (warrantorlaw08_DbmChecks_v1.j2 kj39 a3 a4 t387 false t389 false a0_0 l0_1) = some r := by rw [if_pos rfl] at H; exact H
              clear H
              have H := H1
              clear H1
              have H' := Aside0.mk H
              clear H
              have hnb78 := NB382_383.out
              have hnc78 := NB383_382.out
              have hcz79_0 : wc.cell? ⟨gb382, 0, none⟩ = some (.int .i64 a0_0) := (blk_cell BK382.out 0).trans rfl
              have hcz79_1 : wc.cell? ⟨gb382, 1, none⟩ = some (.slice A0_1 l0_1.length c0_1) := (blk_cell BK382.out 1).trans rfl
              have hfz79_0 := blk_frozen BK382.out 0
              have hfz79_1 := blk_frozen BK382.out 1
              go_wp2
              go_meet
              case rel => exact ⟨_, (false), (by first | rfl | (simp; done) | (simp [*]; done)), H', ⟨by have := HJ5.out; have := HJ39.out; first | omega | exact Nat.le_refl _⟩, ⟨by (with_reducible repeat (first | apply Kd.R_alloc | apply Kd.R_drewN | apply Kd.R_drew)); exact HO_13.out⟩, ⟨by (with_reducible repeat (first | refine blk_drewN ?_ _ | refine blk_drew ?_ | refine blk_alloc ?_ _)); exact BK382.out⟩, ⟨by (with_reducible repeat (first | refine blk_drewN ?_ _ | refine blk_drew ?_ | refine blk_alloc ?_ _)); exact BK383.out⟩, ⟨HB_⟩⟩
            replace c77 := Bool.eq_false_iff.mpr c77
            subst c77
            have H1 : (warrantorlaw08_DbmChecks_v1.j2 kj39 a3 a4 t387 false t389 ((t389.length : Int) != 0) a0_0 l0_1) = some r := by rw [if_neg (show ¬ (false = true) by decide)] at H; exact H
            clear H
            have H := H1
            clear H1
            have H' := Aside0.mk H
            clear H
            have hnb80 := NB382_383.out
            have hnc80 := NB383_382.out
            have hcz81_0 : wc.cell? ⟨gb382, 0, none⟩ = some (.int .i64 a0_0) := (blk_cell BK382.out 0).trans rfl
            have hcz81_1 : wc.cell? ⟨gb382, 1, none⟩ = some (.slice A0_1 l0_1.length c0_1) := (blk_cell BK382.out 1).trans rfl
            have hfz81_0 := blk_frozen BK382.out 0
            have hfz81_1 := blk_frozen BK382.out 1
            obtain ⟨Ao82, co82, eo82⟩ := Kd.R_slice HO_13.out
            subst eo82
            go_wp2
            go_meet
            case rel => exact ⟨_, (((t389.length : Int) != 0)), (by first | rfl | (simp; done) | (simp [*]; done)), H', ⟨by have := HJ5.out; have := HJ39.out; first | omega | exact Nat.le_refl _⟩, ⟨by (with_reducible repeat (first | apply Kd.R_alloc | apply Kd.R_drewN | apply Kd.R_drew)); exact HO_13.out⟩, ⟨by (with_reducible repeat (first | refine blk_drewN ?_ _ | refine blk_drew ?_ | refine blk_alloc ?_ _)); exact BK382.out⟩, ⟨by (with_reducible repeat (first | refine blk_drewN ?_ _ | refine blk_drew ?_ | refine blk_alloc ?_ _)); exact BK383.out⟩, ⟨HB_⟩⟩
          case rest =>
            clear HC64
            try clear c1
            try clear c2
            try clear p2
            try clear c3
            try clear c5
            try clear c6
            try clear c7
            try clear c8
            try clear c26
            try clear c27
            try clear c30
            try clear c31
            try clear c35
            try clear c36
            try clear c56
            try clear c56b0
            try clear c56b1
            try clear c57
            try clear c57b0
            try clear c58
            try clear c60
            try clear c62
            try clear c65
            try clear c65b0
            try clear c65b1
            try clear c65b2
            try clear c66
            try clear c67
            try clear c67b0
            try clear c68
            try clear c68b0
            try clear c68b1
            try clear c68b2
            try clear c69
            try clear c70
            try clear c71
            try clear c73
            try clear c76
            try clear c76b0
            try clear c76b1
            try clear c77
            try clear c78
            try clear c80
            try clear c83
            try clear c83b0
            try clear c83b1
            try clear c83b2
            try clear c84
            try clear c85
            try clear c87
            try clear c87b0
            try clear c87b1
            try clear c88
            try clear hcz59_0
            try clear hcz59_1
            try clear hcz61_0
            try clear hcz61_1
            try clear hcz63_0
            try clear hcz63_1
            try clear hcz72_0
            try clear hcz72_1
            try clear hcz74_0
            try clear hcz74_1
            try clear hcz79_0
            try clear hcz79_1
            try clear hcz81_0
            try clear hcz81_1
            try clear hfz59_0
            try clear hfz59_1
            try clear hfz61_0
            try clear hfz61_1
            try clear hfz63_0
            try clear hfz63_1
            try clear hfz72_0
            try clear hfz72_1
            try clear hfz74_0
            try clear hfz74_1
            try clear hfz79_0
            try clear hfz79_1
            try clear hfz81_0
            try clear hfz81_1
            try clear p2
            obtain ⟨kq, x148_63, rfl, HA, HJ63, HO_13, BK382, BK383, HB⟩ := hcut
            cases kq with
            | zero => exact absurd HA.out (by simp [warrantorlaw08_DbmChecks_v1.j2])
            | succ kj63 =>
              have H := HA.out
              clear HA
              simp only [warrantorlaw08_DbmChecks_v1.j2] at H
              by_cases c90 : x148_63 = true
              · subst c90
                have H1 : (none) = some r := by rw [if_pos rfl] at H; exact H
                clear H
                have H := H1
                clear H1
                exact absurd H (by simp)
              replace c90 := Bool.eq_false_iff.mpr c90
              subst c90
              have H1 : (if t388 = true then (if 0 ≤ (wrap64 ((wrap64 (a3 * (wrap64 (a0_0 + 1)))) + a4)) then (if (wrap64 ((wrap64 (a3 * (wrap64 (a0_0 + 1)))) + a4)) < (l0_1.length : Int) then (if t387 = (rd l0_1 (wrap64 ((wrap64 (a3 * (wrap64 (a0_0 + 1)))) + a4))) then (some ((t389.length : Int) == a0_0)) else (none)) else (none)) else (none)) else (some true)) = some r := by rw [if_neg (show ¬ (false = true) by decide)] at H; exact H
              clear H
              have H := H1
              clear H1
              by_cases c91 : t388 = true
              rotate_left
              · replace c91 := Bool.eq_false_iff.mpr c91
                subst c91
                have H1 : (some true) = some r := by rw [if_neg (show ¬ (false = true) by decide)] at H; exact H
                clear H
                have H := H1
                clear H1
                obtain rfl := Option.some.inj H
                go_wp2
                go_ret
                exact ⟨by first | rfl | (simp [errW_none, errW_some] <;> rfl) | (simp [*, errW_none, errW_some] <;> rfl), HB_⟩
              subst c91
              have H1 : (if 0 ≤ (wrap64 ((wrap64 (a3 * (wrap64 (a0_0 + 1)))) + a4)) then (if (wrap64 ((wrap64 (a3 * (wrap64 (a0_0 + 1)))) + a4)) < (l0_1.length : Int) then (if t387 = (rd l0_1 (wrap64 ((wrap64 (a3 * (wrap64 (a0_0 + 1)))) + a4))) then (some ((t389.length : Int) == a0_0)) else (none)) else (none)) else (none)) = some r := by rw [if_pos rfl] at H; exact H
              clear H
              have H := H1
              clear H1
              obtain ⟨ji92, hji92⟩ : ∃ j_ : Int, (wrap64 ((wrap64 (a3 * (wrap64 (a0_0 + 1)))) + a4)) = j_ := ⟨_, rfl⟩
              replace H : (if 0 ≤ (ji92) then (if (ji92) < (l0_1.length : Int) then (if t387 = (rd l0_1 (ji92)) then (some ((t389.length : Int) == a0_0)) else (none)) else (none)) else (none)) = some r := by first | (rw [hji92] at H; exact H) | (simp only [hji92] at H ⊢; exact H)
              have hji92w : (IntKind.i64.wrap ((wrap64 (a3 * (wrap64 (a0_0 + 1)))) + a4)) = ji92 := (i64_w _).trans hji92
              have hji92v : (IntKind.i64.wrap ((IntKind.i64.wrap (a3 * (IntKind.i64.wrap (a0_0 + 1)))) + a4)) = ji92 := by (try simp only [i64_w]); first | exact hji92 | exact hji92w
              by_cases c93 : 0 ≤ (ji92)
              rotate_left
              · rw [if_neg c93] at H
                exact absurd H (by simp)
              rw [if_pos c93] at H
              have c93b0 : decide (0 ≤ (ji92)) = true := decide_eq_true c93
              clear c93
              by_cases c94 : (ji92) < (l0_1.length : Int)
              rotate_left
              · rw [if_neg c94] at H
                exact absurd H (by simp)
              rw [if_pos c94] at H
              have c94b0 : decide ((ji92) < (l0_1.length : Int)) = true := decide_eq_true c94
              clear c94
              by_cases c95 : t387 = (rd l0_1 (ji92))
              rotate_left
              · rw [if_neg c95] at H
                exact absurd H (by simp)
              rw [if_pos c95] at H
              have c95b0 : (t387 == (rd l0_1 (ji92))) = true := beq_iff_eq.mpr c95
              have c95b1 : (t387 != (rd l0_1 (ji92))) = false := bne_eq_false_iff_eq.mpr c95
              clear c95
              obtain rfl := Option.some.inj H
              have hnb96 := NB382_383.out
              have hnc96 := NB383_382.out
              have hcz97_0 : wc.cell? ⟨gb382, 0, none⟩ = some (.int .i64 a0_0) := (blk_cell BK382.out 0).trans rfl
              have hcz97_1 : wc.cell? ⟨gb382, 1, none⟩ = some (.slice A0_1 l0_1.length c0_1) := (blk_cell BK382.out 1).trans rfl
              have hfz97_0 := blk_frozen BK382.out 0
              have hfz97_1 := blk_frozen BK382.out 1
              have p401 : 0 ≤ ((ji92) : Int) := of_decide_eq_true (by first | (with_reducible assumption) | assumption)
              have q401 : (ji92) < (l0_1.length : Int) := of_decide_eq_true (by first | (with_reducible assumption) | assumption)
              obtain ⟨ad401, e401, hx401_0⟩ := Kd.at_int HR0_1.out (ji92) p401 q401
              cases e401
              first | (replace hx401_0 := (HB.out.cell (World.block_lt_of_cell? w _ hx401_0)).trans hx401_0) | skip
              replace p401 := eq_true p401
              replace q401 := eq_true q401
              obtain ⟨Ao98, co98, eo98⟩ := Kd.R_slice HO_13.out
              subst eo98
              go_wp2
              go_ret
              exact ⟨by first | rfl | (simp [errW_none, errW_some] <;> rfl) | (simp only [← hji92]; first | rfl | (simp [errW_none, errW_some] <;> rfl)) | (simp [*, errW_none, errW_some] <;> rfl), HB_⟩
end Go.Proofs.Ytgbndakiiblhmaa.F
