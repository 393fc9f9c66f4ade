-- WRITTEN BY this session's program wip/ext.py, in print.py's manner
import Derived.Test.YtgbndakiiblhmaaFx0
import Derived.Test.YtgbndakiiblhmaaFx2
import Derived.Test.YtgbndakiiblhmaaFx9
import Derived.Test.YtgbndakiiblhmaaFx13
import Derived.Test.YtgbndakiiblhmaaFx16
import Derived.Test.YtgbndakiiblhmaaFx17
import Derived.Test.YtgbndakiiblhmaaFx18
import Derived.Test.YtgbndakiiblhmaaFx22
namespace Go.Proofs.Ytgbndakiiblhmaa.F
open Go.RowKit Go.Proofs.YtgbndakiiblhmaaW.PrintWords Go.Proofs.YtgbndakiiblhmaaW.PrintLast Go.Proofs.YtgbndakiiblhmaaW.PrintMore
attribute [local go_sem] max2_int min2_int max_two min_two max_three min_three max_four min_four   -- for this text's walks alone
set_option linter.unusedVariables false
set_option linter.unusedSimpArgs false

/-! ### warrantorlaw08_DbmChecks_v0: function 8 -/
mutual
def warrantorlaw08_DbmChecks_v0.j0 : Nat → List Int → Int → Int → Bool → Int → List Int → Int → List Int → Option (Bool)
  | 0, _, _, _, _, _, _, _, _ => none
  | k + 1, x2, x3, x4, x29, x363000, x363001, x364000, x364001 => if x29 = true then ((warrantorlaw08_lives.f k).bind fun t366 => (some t366)) else ((dbm_Bound.f k x363000 x363001 x3 x4).bind fun bt367 => ((dbm_Point.f k x363000 x363001 x4).bind fun bt369 => ((warrantorref08_Check.f k x363000 x363001).bind fun t373 => ((warrantorlaw08_lives.f k).bind fun t374 => (if t374 = true then ((dbm_Check.f k x363000 x363001).bind fun t375 => (if ((t375 == 0) != t373) = true then (none) else (if t373 = true then (none) else ((dbm_Check.f k x363000 x363001).bind fun t376 => (if t376 = 80 then ((dbm_Same.f k x363000 x363001 x364000 x364001).bind fun t377 => ((warrantorref08_Same.f k x363000 x363001 x364000 x364001).bind fun t378 => (if (t377 != t378) = true then (none) else ((dbm_Empty.f k x363000 x363001).bind fun t379 => (if (t379 != false) = true then (none) else ((dbm_Has.f k x363000 x363001 x2).bind fun t380 => (if (t380 != false) = true then (none) else (if (bt369.2 != false) = true then (none) else (if (bt367.2 != false) = true then (none) else (if bt367.2 = true then (if bt369.2 = true then (warrantorlaw08_DbmChecks_v0.j1 k x3 x4 bt367.1 bt367.2 bt369.1 false x363000 x363001) else (warrantorlaw08_DbmChecks_v0.j1 k x3 x4 bt367.1 bt367.2 bt369.1 ((bt369.1.length : Int) != 0) x363000 x363001)) else (if bt367.1 = 0 then (if bt369.2 = true then (warrantorlaw08_DbmChecks_v0.j1 k x3 x4 bt367.1 bt367.2 bt369.1 false x363000 x363001) else (warrantorlaw08_DbmChecks_v0.j1 k x3 x4 bt367.1 bt367.2 bt369.1 ((bt369.1.length : Int) != 0) x363000 x363001)) else (none)))))))))))) else (none)))))) else (none))))))
def warrantorlaw08_DbmChecks_v0.j1 : Nat → Int → Int → Int → Bool → List Int → Bool → Int → List Int → Option (Bool)
  | 0, _, _, _, _, _, _, _, _ => none
  | k + 1, x3, x4, x11, x12, x13, x148, x363000, x363001 => if x148 = true then (none) else (if x12 = true then (if 0 ≤ (wrap64 ((wrap64 (x3 * (wrap64 (x363000 + 1)))) + x4)) then (if (wrap64 ((wrap64 (x3 * (wrap64 (x363000 + 1)))) + x4)) < (x363001.length : Int) then (if x11 = (rd x363001 (wrap64 ((wrap64 (x3 * (wrap64 (x363000 + 1)))) + x4))) then (some ((x13.length : Int) == x363000)) else (none)) else (none)) else (none)) else (some true))
end
def warrantorlaw08_DbmChecks_v0.f (k : Nat) (a0_0 : Int) (l0_1 : List Int) (a1_0 : Int) (l1_1 : List Int) (l2 : List Int) (a3 : Int) (a4 : Int) : Option (Bool) := (warrantorref08_Large.f l0_1).bind fun t364 => (if t364 = true then (warrantorlaw08_DbmChecks_v0.j0 k l2 a3 a4 true a0_0 l0_1 a1_0 l1_1) else ((warrantorref08_Large.f l1_1).bind fun t365 => (if t365 = true then (warrantorlaw08_DbmChecks_v0.j0 k l2 a3 a4 true a0_0 l0_1 a1_0 l1_1) else (warrantorlaw08_DbmChecks_v0.j0 k l2 a3 a4 (decide ((l2.length : Int) > 20)) a0_0 l0_1 a1_0 l1_1))))
theorem warrantorlaw08_DbmChecks_v0.mono_l : ∀ k, (∀ y0 y1 y2 y3 y4 y5 y6 y7, LeO (warrantorlaw08_DbmChecks_v0.j0 k y0 y1 y2 y3 y4 y5 y6 y7) (warrantorlaw08_DbmChecks_v0.j0 (k + 1) y0 y1 y2 y3 y4 y5 y6 y7)) ∧ (∀ y0 y1 y2 y3 y4 y5 y6 y7, LeO (warrantorlaw08_DbmChecks_v0.j1 k y0 y1 y2 y3 y4 y5 y6 y7) (warrantorlaw08_DbmChecks_v0.j1 (k + 1) y0 y1 y2 y3 y4 y5 y6 y7))
  | 0 => ⟨fun _ _ _ _ _ _ _ _ r h => by simp [warrantorlaw08_DbmChecks_v0.j0] at h, fun _ _ _ _ _ _ _ _ r h => by simp [warrantorlaw08_DbmChecks_v0.j1] at h⟩
  | k + 1 => by
    obtain ⟨ih0, ih1⟩ := warrantorlaw08_DbmChecks_v0.mono_l k
    refine ⟨?_, ?_⟩
    · intro y0 y1 y2 y3 y4 y5 y6 y7
      unfold warrantorlaw08_DbmChecks_v0.j0
      repeat' first
      | (with_reducible exact ih0 _ _ _ _ _ _ _ _)
      | (with_reducible exact ih1 _ _ _ _ _ _ _ _)
      | (with_reducible exact dbm_Bound.mono _ _ _ _ _)
      | (with_reducible exact dbm_Check.mono _ _ _)
      | (with_reducible exact dbm_Empty.mono _ _ _)
      | (with_reducible exact dbm_Has.mono _ _ _ _)
      | (with_reducible exact dbm_Point.mono _ _ _ _)
      | (with_reducible exact dbm_Same.mono _ _ _ _ _)
      | (with_reducible exact warrantorlaw08_lives.mono _)
      | (with_reducible exact warrantorref08_Check.mono _ _ _)
      | (with_reducible exact warrantorref08_Same.mono _ _ _ _ _)
      | (with_reducible exact LeO.refl _)
      | (with_reducible exact LeO.none _)
      | (with_reducible refine LeO.ite ?_ ?_)
      | (with_reducible refine LeO.bind ?_ (fun _ => ?_))
      | exact ih0 _ _ _ _ _ _ _ _
      | exact ih1 _ _ _ _ _ _ _ _
      | exact dbm_Bound.mono _ _ _ _ _
      | exact dbm_Check.mono _ _ _
      | exact dbm_Empty.mono _ _ _
      | exact dbm_Has.mono _ _ _ _
      | exact dbm_Point.mono _ _ _ _
      | exact dbm_Same.mono _ _ _ _ _
      | exact warrantorlaw08_lives.mono _
      | exact warrantorref08_Check.mono _ _ _
      | exact warrantorref08_Same.mono _ _ _ _ _
      | exact LeO.none _
      | refine LeO.ite ?_ ?_
      | refine LeO.bind ?_ (fun _ => ?_)
    · intro y0 y1 y2 y3 y4 y5 y6 y7
      unfold warrantorlaw08_DbmChecks_v0.j1
      repeat' first
      | (with_reducible exact ih0 _ _ _ _ _ _ _ _)
      | (with_reducible exact ih1 _ _ _ _ _ _ _ _)
      | (with_reducible exact dbm_Bound.mono _ _ _ _ _)
      | (with_reducible exact dbm_Check.mono _ _ _)
      | (with_reducible exact dbm_Empty.mono _ _ _)
      | (with_reducible exact dbm_Has.mono _ _ _ _)
      | (with_reducible exact dbm_Point.mono _ _ _ _)
      | (with_reducible exact dbm_Same.mono _ _ _ _ _)
      | (with_reducible exact warrantorlaw08_lives.mono _)
      | (with_reducible exact warrantorref08_Check.mono _ _ _)
      | (with_reducible exact warrantorref08_Same.mono _ _ _ _ _)
      | (with_reducible exact LeO.refl _)
      | (with_reducible exact LeO.none _)
      | (with_reducible refine LeO.ite ?_ ?_)
      | (with_reducible refine LeO.bind ?_ (fun _ => ?_))
      | exact ih0 _ _ _ _ _ _ _ _
      | exact ih1 _ _ _ _ _ _ _ _
      | exact dbm_Bound.mono _ _ _ _ _
      | exact dbm_Check.mono _ _ _
      | exact dbm_Empty.mono _ _ _
      | exact dbm_Has.mono _ _ _ _
      | exact dbm_Point.mono _ _ _ _
      | exact dbm_Same.mono _ _ _ _ _
      | exact warrantorlaw08_lives.mono _
      | exact warrantorref08_Check.mono _ _ _
      | exact warrantorref08_Same.mono _ _ _ _ _
      | exact LeO.none _
      | refine LeO.ite ?_ ?_
      | refine LeO.bind ?_ (fun _ => ?_)
theorem warrantorlaw08_DbmChecks_v0.mono : ∀ a0 a1 a2 a3 a4 a5 a6 k, LeO (warrantorlaw08_DbmChecks_v0.f k a0 a1 a2 a3 a4 a5 a6) (warrantorlaw08_DbmChecks_v0.f (k + 1) a0 a1 a2 a3 a4 a5 a6) := by
  intro a0 a1 a2 a3 a4 a5 a6 k
  obtain ⟨ih0, ih1⟩ := warrantorlaw08_DbmChecks_v0.mono_l k
  unfold warrantorlaw08_DbmChecks_v0.f
  repeat' first
      | (with_reducible exact ih0 _ _ _ _ _ _ _ _)
      | (with_reducible exact ih1 _ _ _ _ _ _ _ _)
      | (with_reducible exact dbm_Bound.mono _ _ _ _ _)
      | (with_reducible exact dbm_Check.mono _ _ _)
      | (with_reducible exact dbm_Empty.mono _ _ _)
      | (with_reducible exact dbm_Has.mono _ _ _ _)
      | (with_reducible exact dbm_Point.mono _ _ _ _)
      | (with_reducible exact dbm_Same.mono _ _ _ _ _)
      | (with_reducible exact warrantorlaw08_lives.mono _)
      | (with_reducible exact warrantorref08_Check.mono _ _ _)
      | (with_reducible exact warrantorref08_Same.mono _ _ _ _ _)
      | (with_reducible exact LeO.refl _)
      | (with_reducible exact LeO.none _)
      | (with_reducible refine LeO.ite ?_ ?_)
      | (with_reducible refine LeO.bind ?_ (fun _ => ?_))
      | exact ih0 _ _ _ _ _ _ _ _
      | exact ih1 _ _ _ _ _ _ _ _
      | exact dbm_Bound.mono _ _ _ _ _
      | exact dbm_Check.mono _ _ _
      | exact dbm_Empty.mono _ _ _
      | exact dbm_Has.mono _ _ _ _
      | exact dbm_Point.mono _ _ _ _
      | exact dbm_Same.mono _ _ _ _ _
      | exact warrantorlaw08_lives.mono _
      | exact warrantorref08_Check.mono _ _ _
      | exact warrantorref08_Same.mono _ _ _ _ _
      | exact LeO.none _
      | refine LeO.ite ?_ ?_
      | refine LeO.bind ?_ (fun _ => ?_)
def warrantorlaw08_DbmChecks_v0.T6 : Bool × List (List Nat × List Nat) := (true, [([], []), ([0], [0]), ([1, 0], [1]), ([2], [2]), ([3, 2, 2], [2, 3]), ([4, 2], [2, 4]), ([2], [2]), ([5, 6, 2], [2, 5, 6]), ([2, 7], [2, 7]), ([8, 4], [8]), ([9], [9]), ([10, 9], [9, 10]), ([11, 9, 9], [9, 11]), ([12], [12]), ([13, 12, 12], [12, 13]), ([14, 12], [12, 14]), ([12, 15, 9], [9, 12, 15]), ([9, 16], [9, 16]), ([17, 14], [17]), ([18], [18]), ([18], [18]), ([19, 20, 18, 18], [18, 19, 20]), ([18], [18]), ([18], [18]), ([22, 23, 21, 18], [18, 22, 23]), ([21, 24, 18], [18, 21, 24]), ([18, 25], [18, 25]), ([26, 24], [26]), ([27], [27]), ([28, 27, 27], [27, 28]), ([27], [27]), ([30, 29, 27], [27, 30]), ([31], [31]), ([32, 31], [31, 32]), ([33, 31], [31, 33]), ([34, 31], [31, 34]), ([31, 35, 27], [27, 31, 35]), ([29, 36, 27], [27, 29, 36]), ([27, 37], [27, 37]), ([38, 31], [38]), ([39], [39]), ([39], [39]), ([40, 41, 39, 39], [39, 40, 41]), ([39], [39]), ([43, 42, 39], [39, 43]), ([44], [44]), ([44], [44]), ([45, 46, 44, 44], [44, 45, 46]), ([44, 47, 39], [39, 44, 47]), ([42, 48, 39], [39, 42, 48]), ([39, 49], [39, 49])])
def warrantorlaw08_DbmChecks_v0.B6 : List Nat := [0, 1, 3, 7, 15, 31, 7, 127, 255, 511, 1023, 2047, 4095, 8191, 16383, 32767, 65535, 131071, 262143, 524287, 524287, 2097151, 524287, 524287, 16777215, 33554431, 67108863, 134217727, 268435455, 536870911, 268435455, 2147483647, 4294967295, 8589934591, 17179869183, 34359738367, 68719476735, 137438953471, 274877906943, 549755813887, 1099511627775, 1099511627775, 4398046511103, 1099511627775, 17592186044415, 35184372088831, 35184372088831, 140737488355327, 281474976710655, 562949953421311, 1125899906842623]
theorem warrantorlaw08_DbmChecks_v0.tab6 : rtab .any (opsOf Try.f8 6) = warrantorlaw08_DbmChecks_v0.T6 := by kernel_rfl
theorem warrantorlaw08_DbmChecks_v0.bits6 : waitsOk warrantorlaw08_DbmChecks_v0.T6.2 warrantorlaw08_DbmChecks_v0.B6 = true := by kernel_rfl
set_option maxHeartbeats 8000000 in
set_option maxRecDepth 100000 in
theorem warrantorlaw08_DbmChecks_v0.calls (k : Nat) (a0_0 : Int) (A0_1 : Option Addr) (c0_1 : Nat) (l0_1 : List Int) (a1_0 : Int) (A1_1 : Option Addr) (c1_1 : Nat) (l1_1 : List Int) (A2 : Option Addr) (c2 : Nat) (l2 : List Int) (a3 : Int) (a4 : Int) (r : Bool) (w : World) (hr0_1 : Kd.C (Kd.int .i64) w A0_1 l0_1.length l0_1) (hc0_1 : l0_1.length ≤ c0_1) (hr1_1 : Kd.C (Kd.int .i64) w A1_1 l1_1.length l1_1) (hc1_1 : l1_1.length ≤ c1_1) (hr2 : Kd.C (Kd.int .i64) w A2 l2.length l2) (hc2 : l2.length ≤ c2) (h : warrantorlaw08_DbmChecks_v0.f k a0_0 l0_1 a1_0 l1_1 l2 a3 a4 = some r) :
    Calls Try.prog 8 #[.agg #[.int .i64 a0_0, .slice A0_1 l0_1.length c0_1], .agg #[.int .i64 a1_0, .slice A1_1 l1_1.length c1_1], .slice A2 l2.length c2, .int .i64 a3, .int .i64 a4] w fun e w' => e = .returned (.bool r) ∧ Below w.heap.size w w' := by
  have hu40 := Try.underlying40
  have HR0_1 := Aside0.mk hr0_1
  have HC0_1 := Aside0.mk hc0_1
  clear hr0_1 hc0_1
  have HR1_1 := Aside0.mk hr1_1
  have HC1_1 := Aside0.mk hc1_1
  clear hr1_1 hc1_1
  have HR2 := Aside0.mk hr2
  have HC2 := Aside0.mk hc2
  clear hr2 hc2
  have HB := Aside0.mk (Below.refl w.heap.size w)
  have H : ((warrantorref08_Large.f l0_1).bind fun t364 => (if t364 = true then (warrantorlaw08_DbmChecks_v0.j0 k l2 a3 a4 true a0_0 l0_1 a1_0 l1_1) else ((warrantorref08_Large.f l1_1).bind fun t365 => (if t365 = true then (warrantorlaw08_DbmChecks_v0.j0 k l2 a3 a4 true a0_0 l0_1 a1_0 l1_1) else (warrantorlaw08_DbmChecks_v0.j0 k l2 a3 a4 (decide ((l2.length : Int) > 20)) a0_0 l0_1 a1_0 l1_1))))) = some r := h
  clear h
  have HC6 := Aside0.mk H
  clear H
  go_enter Try.func8, Try.ntmps8
  go_upto_region 1 with (first | ((with_reducible refine gate_dst (N := 5) rfl ?_); (try (refine gate_guard (by rfl) ?_; dsimp only)); refine box_event ?hg (N := 5) ?hd (cs := #[.int .i64 a0_0, .slice A0_1 l0_1.length c0_1]) (t := 40) ?hr ?_; (case hd => rfl); (case hg => rfl); (case hr => first | (go_simp; done) | (go_simp; rfl)); intro gb362 hg w7 hbox hb; have n0_ := Aside0.mk (below_step HB_ hb); have n1_ := Aside0.mk (hbox); have n2_ := Aside0.mk ((by rw [hg]; exact (below_size HB_) : w.heap.size ≤ gb362)); have n3_ := Aside0.mk ((by rw [hg]; exact (below_size HB_) : w.heap.size ≤ gb362)); clear HB; have HB := n0_; have BK362 := n1_; have GW362 := n2_; have GE362 := n3_; clear n0_ n1_ n2_ n3_; clear hb hbox hg) | ((with_reducible refine gate_dst (N := 6) rfl ?_); (try (refine gate_guard (by rfl) ?_; dsimp only)); refine box_event ?hg (N := 6) ?hd (cs := #[.int .i64 a1_0, .slice A1_1 l1_1.length c1_1]) (t := 40) ?hr ?_; (case hd => rfl); (case hg => rfl); (case hr => first | (go_simp; done) | (go_simp; rfl)); intro gb363 hg w8 hbox hb; have n0_ := Aside0.mk (blk_below (g := gb362) (o := .cells #[.int .i64 a0_0, .slice A0_1 l0_1.length c0_1] 40 (0, 0)) (bk_ BK362.out) hb); have n1_ := Aside0.mk (below_step HB_ hb); have n2_ := Aside0.mk (hbox); have n3_ := Aside0.mk ((by rw [hg]; exact (below_size HB_) : w.heap.size ≤ gb363)); have n4_ := Aside0.mk ((by rw [hg]; exact (below_size HB_) : w.heap.size ≤ gb363)); have n5_ := Aside0.mk ((by rw [hg]; exact Nat.ne_of_lt (blk_lt (g := gb362) (o := .cells #[.int .i64 a0_0, .slice A0_1 l0_1.length c0_1] 40 (0, 0)) (bk_ BK362.out)) : gb362 ≠ gb363)); have n6_ := Aside0.mk ((by rw [hg]; exact Nat.ne_of_gt (blk_lt (g := gb362) (o := .cells #[.int .i64 a0_0, .slice A0_1 l0_1.length c0_1] 40 (0, 0)) (bk_ BK362.out)) : gb363 ≠ gb362)); clear BK362; clear HB; have BK362 := n0_; have HB := n1_; have BK363 := n2_; have GW363 := n3_; have GE363 := n4_; have NB362_363 := n5_; have NB363_362 := n6_; clear n0_ n1_ n2_ n3_ n4_ n5_ n6_; clear hb hbox hg))
  (try simp only [Act.put, List.setIfInBounds_toArray, List.set_cons_zero, List.set_cons_succ])
  go_cut [29] (fun v29 wc => ∃ (kq : Nat) (x29_5 : Bool), v29 = .bool x29_5 ∧ Aside0 (warrantorlaw08_DbmChecks_v0.j0 kq l2 a3 a4 x29_5 a0_0 l0_1 a1_0 l1_1 = some r) ∧ Aside0 (kq ≤ k) ∧ Aside0 (wc.heap[gb362]? = some (.cells #[.int .i64 a0_0, (.slice A0_1 l0_1.length c0_1)] 40 (0, 0))) ∧ Aside0 (wc.heap[gb363]? = some (.cells #[.int .i64 a1_0, (.slice A1_1 l1_1.length c1_1)] 40 (0, 0))) ∧ Aside0 (Below w.heap.size w wc))
  case first =>
    have H := HC6.out
    clear HC6
    replace H := Option.bind_eq_some_iff.mp H
    obtain ⟨t364, A90, H⟩ := H
    replace H : (if t364 = true then (warrantorlaw08_DbmChecks_v0.j0 k l2 a3 a4 true a0_0 l0_1 a1_0 l1_1) else ((warrantorref08_Large.f l1_1).bind fun t365 => (if t365 = true then (warrantorlaw08_DbmChecks_v0.j0 k l2 a3 a4 true a0_0 l0_1 a1_0 l1_1) else (warrantorlaw08_DbmChecks_v0.j0 k l2 a3 a4 (decide ((l2.length : Int) > 20)) a0_0 l0_1 a1_0 l1_1)))) = some r := H
    have A9 := Aside0.mk A90
    clear A90
    by_cases c10 : t364 = true
    · subst c10
      have H1 : (warrantorlaw08_DbmChecks_v0.j0 k l2 a3 a4 true a0_0 l0_1 a1_0 l1_1) = some r := by rw [if_pos rfl] at H; exact H
      clear H
      have H := H1
      clear H1
      have H' := Aside0.mk H
      clear H
      have hnb11 := NB362_363.out
      have hnc11 := NB363_362.out
      have hcz12_0 : w8.cell? ⟨gb362, 0, none⟩ = some (.int .i64 a0_0) := (blk_cell BK362.out 0).trans rfl
      have hcz12_1 : w8.cell? ⟨gb362, 1, none⟩ = some (.slice A0_1 l0_1.length c0_1) := (blk_cell BK362.out 1).trans rfl
      have hfz12_0 := blk_frozen BK362.out 0
      have hfz12_1 := blk_frozen BK362.out 1
      go_wp2_with (first | ((with_reducible refine gate_callee (f := 21) rfl ?_); refine goesL_ (some 19) rfl rfl Try.func21 (by kernel_rfl) rfl #[.slice A0_1 l0_1.length c0_1] rfl MP_ ?_; (with_reducible refine (warrantorref08_Large.calls _ _ l0_1 true _ ?side1 ?side2 A9.out).mono ?_); (case side1 => repeat (first | exact (Kd.C_below HR0_1.out HB.out) | (with_reducible refine Kd.C_alloc ?_ _) | (with_reducible refine Kd.C_drewN ?_ _) | (with_reducible refine Kd.C_drew ?_))); (case side2 => exact HC0_1.out); rintro e w' ⟨rfl, ⟨nd, rfl⟩⟩; refine ⟨_, rfl, ?_⟩))
      go_meet
      case rel => exact ⟨_, (true), (by first | rfl | (simp; done) | (simp [*]; done)), H', ⟨by first | omega | exact Nat.le_refl _⟩, ⟨by (with_reducible repeat (first | refine blk_drewN ?_ _ | refine blk_drew ?_ | refine blk_alloc ?_ _)); exact BK362.out⟩, ⟨by (with_reducible repeat (first | refine blk_drewN ?_ _ | refine blk_drew ?_ | refine blk_alloc ?_ _)); exact BK363.out⟩, ⟨HB_⟩⟩
    replace c10 := Bool.eq_false_iff.mpr c10
    subst c10
    have H1 : ((warrantorref08_Large.f l1_1).bind fun t365 => (if t365 = true then (warrantorlaw08_DbmChecks_v0.j0 k l2 a3 a4 true a0_0 l0_1 a1_0 l1_1) else (warrantorlaw08_DbmChecks_v0.j0 k l2 a3 a4 (decide ((l2.length : Int) > 20)) a0_0 l0_1 a1_0 l1_1))) = some r := by rw [if_neg (show ¬ (false = true) by decide)] at H; exact H
    clear H
    have H := H1
    clear H1
    replace H := Option.bind_eq_some_iff.mp H
    obtain ⟨t365, A130, H⟩ := H
    replace H : (if t365 = true then (warrantorlaw08_DbmChecks_v0.j0 k l2 a3 a4 true a0_0 l0_1 a1_0 l1_1) else (warrantorlaw08_DbmChecks_v0.j0 k l2 a3 a4 (decide ((l2.length : Int) > 20)) a0_0 l0_1 a1_0 l1_1)) = some r := H
    have A13 := Aside0.mk A130
    clear A130
    by_cases c14 : t365 = true
    · subst c14
      have H1 : (warrantorlaw08_DbmChecks_v0.j0 k l2 a3 a4 true a0_0 l0_1 a1_0 l1_1) = some r := by rw [if_pos rfl] at H; exact H
      clear H
      have H := H1
      clear H1
      have H' := Aside0.mk H
      clear H
      have hnb15 := NB362_363.out
      have hnc15 := NB363_362.out
      have hcz16_0 : w8.cell? ⟨gb362, 0, none⟩ = some (.int .i64 a0_0) := (blk_cell BK362.out 0).trans rfl
      have hcz16_1 : w8.cell? ⟨gb362, 1, none⟩ = some (.slice A0_1 l0_1.length c0_1) := (blk_cell BK362.out 1).trans rfl
      have hfz16_0 := blk_frozen BK362.out 0
      have hfz16_1 := blk_frozen BK362.out 1
      go_wp2_with (first | ((with_reducible refine gate_callee (f := 21) rfl ?_); refine goesL_ (some 19) rfl rfl Try.func21 (by kernel_rfl) rfl #[.slice A0_1 l0_1.length c0_1] rfl MP_ ?_; (with_reducible refine (warrantorref08_Large.calls _ _ l0_1 false _ ?side1 ?side2 A9.out).mono ?_); (case side1 => repeat (first | exact (Kd.C_below HR0_1.out HB.out) | (with_reducible refine Kd.C_alloc ?_ _) | (with_reducible refine Kd.C_drewN ?_ _) | (with_reducible refine Kd.C_drew ?_))); (case side2 => exact HC0_1.out); rintro e w' ⟨rfl, ⟨nd, rfl⟩⟩; refine ⟨_, rfl, ?_⟩; have hcz17_0 : w8.cell? ⟨gb363, 0, none⟩ = some (.int .i64 a1_0) := (blk_cell BK363.out 0).trans rfl; have hcz17_1 : w8.cell? ⟨gb363, 1, none⟩ = some (.slice A1_1 l1_1.length c1_1) := (blk_cell BK363.out 1).trans rfl; have hfz17_0 := blk_frozen BK363.out 0; have hfz17_1 := blk_frozen BK363.out 1; (try clear A9)) | (go_at_call 21; (with_reducible refine (warrantorref08_Large.calls _ _ l1_1 true _ ?side1 ?side2 A13.out).mono ?_); (case side1 => repeat (first | exact (Kd.C_below HR1_1.out HB_) | (with_reducible refine Kd.C_alloc ?_ _) | (with_reducible refine Kd.C_drewN ?_ _) | (with_reducible refine Kd.C_drew ?_))); (case side2 => exact HC1_1.out); rintro e w' ⟨rfl, ⟨nd, rfl⟩⟩))
      go_meet
      case rel => exact ⟨_, (true), (by first | rfl | (simp; done) | (simp [*]; done)), H', ⟨by first | omega | exact Nat.le_refl _⟩, ⟨by (with_reducible repeat (first | refine blk_drewN ?_ _ | refine blk_drew ?_ | refine blk_alloc ?_ _)); exact BK362.out⟩, ⟨by (with_reducible repeat (first | refine blk_drewN ?_ _ | refine blk_drew ?_ | refine blk_alloc ?_ _)); exact BK363.out⟩, ⟨HB_⟩⟩
    replace c14 := Bool.eq_false_iff.mpr c14
    subst c14
    have H1 : (warrantorlaw08_DbmChecks_v0.j0 k l2 a3 a4 (decide ((l2.length : Int) > 20)) a0_0 l0_1 a1_0 l1_1) = some r := by rw [if_neg (show ¬ (false = true) by decide)] at H; exact H
    clear H
    have H := H1
    clear H1
    have H' := Aside0.mk H
    clear H
    have hnb18 := NB362_363.out
    have hnc18 := NB363_362.out
    have hcz19_0 : w8.cell? ⟨gb362, 0, none⟩ = some (.int .i64 a0_0) := (blk_cell BK362.out 0).trans rfl
    have hcz19_1 : w8.cell? ⟨gb362, 1, none⟩ = some (.slice A0_1 l0_1.length c0_1) := (blk_cell BK362.out 1).trans rfl
    have hfz19_0 := blk_frozen BK362.out 0
    have hfz19_1 := blk_frozen BK362.out 1
    go_wp2_with (first | ((with_reducible refine gate_callee (f := 21) rfl ?_); refine goesL_ (some 19) rfl rfl Try.func21 (by kernel_rfl) rfl #[.slice A0_1 l0_1.length c0_1] rfl MP_ ?_; (with_reducible refine (warrantorref08_Large.calls _ _ l0_1 false _ ?side1 ?side2 A9.out).mono ?_); (case side1 => repeat (first | exact (Kd.C_below HR0_1.out HB.out) | (with_reducible refine Kd.C_alloc ?_ _) | (with_reducible refine Kd.C_drewN ?_ _) | (with_reducible refine Kd.C_drew ?_))); (case side2 => exact HC0_1.out); rintro e w' ⟨rfl, ⟨nd, rfl⟩⟩; refine ⟨_, rfl, ?_⟩; have hcz20_0 : w8.cell? ⟨gb363, 0, none⟩ = some (.int .i64 a1_0) := (blk_cell BK363.out 0).trans rfl; have hcz20_1 : w8.cell? ⟨gb363, 1, none⟩ = some (.slice A1_1 l1_1.length c1_1) := (blk_cell BK363.out 1).trans rfl; have hfz20_0 := blk_frozen BK363.out 0; have hfz20_1 := blk_frozen BK363.out 1; (try clear A9)) | (go_at_call 21; (with_reducible refine (warrantorref08_Large.calls _ _ l1_1 false _ ?side1 ?side2 A13.out).mono ?_); (case side1 => repeat (first | exact (Kd.C_below HR1_1.out HB_) | (with_reducible refine Kd.C_alloc ?_ _) | (with_reducible refine Kd.C_drewN ?_ _) | (with_reducible refine Kd.C_drew ?_))); (case side2 => exact HC1_1.out); rintro e w' ⟨rfl, ⟨nd, rfl⟩⟩))
    go_meet
    case rel => exact ⟨_, (decide ((l2.length : Int) > 20)), (by first | rfl | (simp; done) | (simp [*]; done)), H', ⟨by first | omega | exact Nat.le_refl _⟩, ⟨by (with_reducible repeat (first | refine blk_drewN ?_ _ | refine blk_drew ?_ | refine blk_alloc ?_ _)); exact BK362.out⟩, ⟨by (with_reducible repeat (first | refine blk_drewN ?_ _ | refine blk_drew ?_ | refine blk_alloc ?_ _)); exact BK363.out⟩, ⟨HB_⟩⟩
  case rest =>
    clear HC6
    try clear c1
    try clear c2
    try clear p2
    try clear c8
    try clear c10
    try clear c11
    try clear c14
    try clear c15
    try clear c18
    try clear hcz12_0
    try clear hcz12_1
    try clear hcz16_0
    try clear hcz16_1
    try clear hcz17_0
    try clear hcz17_1
    try clear hcz19_0
    try clear hcz19_1
    try clear hcz20_0
    try clear hcz20_1
    try clear hfz12_0
    try clear hfz12_1
    try clear hfz16_0
    try clear hfz16_1
    try clear hfz17_0
    try clear hfz17_1
    try clear hfz19_0
    try clear hfz19_1
    try clear hfz20_0
    try clear hfz20_1
    obtain ⟨kq, x29_5, rfl, HA, HJ5, BK362, BK363, HB⟩ := hcut
    cases kq with
    | zero => exact absurd HA.out (by simp [warrantorlaw08_DbmChecks_v0.j0])
    | succ kj5 =>
      have H := HA.out
      clear HA
      simp only [warrantorlaw08_DbmChecks_v0.j0] at H
      by_cases c21 : x29_5 = true
      · subst c21
        have H1 : ((warrantorlaw08_lives.f kj5).bind fun t366 => (some t366)) = some r := by rw [if_pos rfl] at H; exact H
        clear H
        have H := H1
        clear H1
        replace H := Option.bind_eq_some_iff.mp H
        obtain ⟨t366, A220, H⟩ := H
        replace H : (some t366) = some r := H
        have A22 := Aside0.mk A220
        clear A220
        obtain rfl := Option.some.inj H
        go_wp2_with (first | ((with_reducible refine gate_callee (f := 22) rfl ?_); refine goesL_ (some 30) rfl rfl Try.func22 (by kernel_rfl) rfl #[] rfl MP_ ?_; (with_reducible refine (warrantorlaw08_lives.calls kj5  t366 _ A22.out).mono ?_); rintro e w23 ⟨rfl, hb⟩; refine ⟨_, rfl, ?_⟩; have n0_ := Aside0.mk (blk_below (g := gb362) (o := .cells #[.int .i64 a0_0, .slice A0_1 l0_1.length c0_1] 40 (0, 0)) (bk_ BK362.out) hb); have n1_ := Aside0.mk (blk_below (g := gb363) (o := .cells #[.int .i64 a1_0, .slice A1_1 l1_1.length c1_1] 40 (0, 0)) (bk_ BK363.out) hb); have n2_ := Aside0.mk (below_step HB_ hb); clear BK362; clear BK363; clear HB; have BK362 := n0_; have BK363 := n1_; have HB := n2_; clear n0_ n1_ n2_; (try clear hb); (try clear hb2); (try clear hk); (try clear hi)))
        go_ret
        exact ⟨by first | rfl | (simp [errW_none, errW_some] <;> rfl) | (simp [*, errW_none, errW_some] <;> rfl), HB_⟩
      replace c21 := Bool.eq_false_iff.mpr c21
      subst c21
      have H1 : ((dbm_Bound.f kj5 a0_0 l0_1 a3 a4).bind fun bt367 => ((dbm_Point.f kj5 a0_0 l0_1 a4).bind fun bt369 => ((warrantorref08_Check.f kj5 a0_0 l0_1).bind fun t373 => ((warrantorlaw08_lives.f kj5).bind fun t374 => (if t374 = true then ((dbm_Check.f kj5 a0_0 l0_1).bind fun t375 => (if ((t375 == 0) != t373) = true then (none) else (if t373 = true then (none) else ((dbm_Check.f kj5 a0_0 l0_1).bind fun t376 => (if t376 = 80 then ((dbm_Same.f kj5 a0_0 l0_1 a1_0 l1_1).bind fun t377 => ((warrantorref08_Same.f kj5 a0_0 l0_1 a1_0 l1_1).bind fun t378 => (if (t377 != t378) = true then (none) else ((dbm_Empty.f kj5 a0_0 l0_1).bind fun t379 => (if (t379 != false) = true then (none) else ((dbm_Has.f kj5 a0_0 l0_1 l2).bind fun t380 => (if (t380 != false) = true then (none) else (if (bt369.2 != false) = true then (none) else (if (bt367.2 != false) = true then (none) else (if bt367.2 = true then (if bt369.2 = true then (warrantorlaw08_DbmChecks_v0.j1 kj5 a3 a4 bt367.1 bt367.2 bt369.1 false a0_0 l0_1) else (warrantorlaw08_DbmChecks_v0.j1 kj5 a3 a4 bt367.1 bt367.2 bt369.1 ((bt369.1.length : Int) != 0) a0_0 l0_1)) else (if bt367.1 = 0 then (if bt369.2 = true then (warrantorlaw08_DbmChecks_v0.j1 kj5 a3 a4 bt367.1 bt367.2 bt369.1 false a0_0 l0_1) else (warrantorlaw08_DbmChecks_v0.j1 kj5 a3 a4 bt367.1 bt367.2 bt369.1 ((bt369.1.length : Int) != 0) a0_0 l0_1)) else (none)))))))))))) else (none)))))) else (none)))))) = some r := by rw [if_neg (show ¬ (false = true) by decide)] at H; exact H
      clear H
      have H := H1
      clear H1
      replace H := Option.bind_eq_some_iff.mp H
      obtain ⟨⟨t367, t368⟩, A240, H⟩ := H
      replace H : ((dbm_Point.f kj5 a0_0 l0_1 a4).bind fun bt369 => ((warrantorref08_Check.f kj5 a0_0 l0_1).bind fun t373 => ((warrantorlaw08_lives.f kj5).bind fun t374 => (if t374 = true then ((dbm_Check.f kj5 a0_0 l0_1).bind fun t375 => (if ((t375 == 0) != t373) = true then (none) else (if t373 = true then (none) else ((dbm_Check.f kj5 a0_0 l0_1).bind fun t376 => (if t376 = 80 then ((dbm_Same.f kj5 a0_0 l0_1 a1_0 l1_1).bind fun t377 => ((warrantorref08_Same.f kj5 a0_0 l0_1 a1_0 l1_1).bind fun t378 => (if (t377 != t378) = true then (none) else ((dbm_Empty.f kj5 a0_0 l0_1).bind fun t379 => (if (t379 != false) = true then (none) else ((dbm_Has.f kj5 a0_0 l0_1 l2).bind fun t380 => (if (t380 != false) = true then (none) else (if (bt369.2 != false) = true then (none) else (if (t368 != false) = true then (none) else (if t368 = true then (if bt369.2 = true then (warrantorlaw08_DbmChecks_v0.j1 kj5 a3 a4 t367 t368 bt369.1 false a0_0 l0_1) else (warrantorlaw08_DbmChecks_v0.j1 kj5 a3 a4 t367 t368 bt369.1 ((bt369.1.length : Int) != 0) a0_0 l0_1)) else (if t367 = 0 then (if bt369.2 = true then (warrantorlaw08_DbmChecks_v0.j1 kj5 a3 a4 t367 t368 bt369.1 false a0_0 l0_1) else (warrantorlaw08_DbmChecks_v0.j1 kj5 a3 a4 t367 t368 bt369.1 ((bt369.1.length : Int) != 0) a0_0 l0_1)) else (none)))))))))))) else (none)))))) else (none))))) = some r := H
      have A24 := Aside0.mk A240
      clear A240
      replace H := Option.bind_eq_some_iff.mp H
      obtain ⟨⟨t369, t372⟩, A250, H⟩ := H
      replace H : ((warrantorref08_Check.f kj5 a0_0 l0_1).bind fun t373 => ((warrantorlaw08_lives.f kj5).bind fun t374 => (if t374 = true then ((dbm_Check.f kj5 a0_0 l0_1).bind fun t375 => (if ((t375 == 0) != t373) = true then (none) else (if t373 = true then (none) else ((dbm_Check.f kj5 a0_0 l0_1).bind fun t376 => (if t376 = 80 then ((dbm_Same.f kj5 a0_0 l0_1 a1_0 l1_1).bind fun t377 => ((warrantorref08_Same.f kj5 a0_0 l0_1 a1_0 l1_1).bind fun t378 => (if (t377 != t378) = true then (none) else ((dbm_Empty.f kj5 a0_0 l0_1).bind fun t379 => (if (t379 != false) = true then (none) else ((dbm_Has.f kj5 a0_0 l0_1 l2).bind fun t380 => (if (t380 != false) = true then (none) else (if (t372 != false) = true then (none) else (if (t368 != false) = true then (none) else (if t368 = true then (if t372 = true then (warrantorlaw08_DbmChecks_v0.j1 kj5 a3 a4 t367 t368 t369 false a0_0 l0_1) else (warrantorlaw08_DbmChecks_v0.j1 kj5 a3 a4 t367 t368 t369 ((t369.length : Int) != 0) a0_0 l0_1)) else (if t367 = 0 then (if t372 = true then (warrantorlaw08_DbmChecks_v0.j1 kj5 a3 a4 t367 t368 t369 false a0_0 l0_1) else (warrantorlaw08_DbmChecks_v0.j1 kj5 a3 a4 t367 t368 t369 ((t369.length : Int) != 0) a0_0 l0_1)) else (none)))))))))))) else (none)))))) else (none)))) = some r := H
      have A25 := Aside0.mk A250
      clear A250
      replace H := Option.bind_eq_some_iff.mp H
      obtain ⟨t373, A260, H⟩ := H
      replace H : ((warrantorlaw08_lives.f kj5).bind fun t374 => (if t374 = true then ((dbm_Check.f kj5 a0_0 l0_1).bind fun t375 => (if ((t375 == 0) != t373) = true then (none) else (if t373 = true then (none) else ((dbm_Check.f kj5 a0_0 l0_1).bind fun t376 => (if t376 = 80 then ((dbm_Same.f kj5 a0_0 l0_1 a1_0 l1_1).bind fun t377 => ((warrantorref08_Same.f kj5 a0_0 l0_1 a1_0 l1_1).bind fun t378 => (if (t377 != t378) = true then (none) else ((dbm_Empty.f kj5 a0_0 l0_1).bind fun t379 => (if (t379 != false) = true then (none) else ((dbm_Has.f kj5 a0_0 l0_1 l2).bind fun t380 => (if (t380 != false) = true then (none) else (if (t372 != false) = true then (none) else (if (t368 != false) = true then (none) else (if t368 = true then (if t372 = true then (warrantorlaw08_DbmChecks_v0.j1 kj5 a3 a4 t367 t368 t369 false a0_0 l0_1) else (warrantorlaw08_DbmChecks_v0.j1 kj5 a3 a4 t367 t368 t369 ((t369.length : Int) != 0) a0_0 l0_1)) else (if t367 = 0 then (if t372 = true then (warrantorlaw08_DbmChecks_v0.j1 kj5 a3 a4 t367 t368 t369 false a0_0 l0_1) else (warrantorlaw08_DbmChecks_v0.j1 kj5 a3 a4 t367 t368 t369 ((t369.length : Int) != 0) a0_0 l0_1)) else (none)))))))))))) else (none)))))) else (none))) = some r := H
      have A26 := Aside0.mk A260
      clear A260
      replace H := Option.bind_eq_some_iff.mp H
      obtain ⟨t374, A270, H⟩ := H
      replace H : (if t374 = true then ((dbm_Check.f kj5 a0_0 l0_1).bind fun t375 => (if ((t375 == 0) != t373) = true then (none) else (if t373 = true then (none) else ((dbm_Check.f kj5 a0_0 l0_1).bind fun t376 => (if t376 = 80 then ((dbm_Same.f kj5 a0_0 l0_1 a1_0 l1_1).bind fun t377 => ((warrantorref08_Same.f kj5 a0_0 l0_1 a1_0 l1_1).bind fun t378 => (if (t377 != t378) = true then (none) else ((dbm_Empty.f kj5 a0_0 l0_1).bind fun t379 => (if (t379 != false) = true then (none) else ((dbm_Has.f kj5 a0_0 l0_1 l2).bind fun t380 => (if (t380 != false) = true then (none) else (if (t372 != false) = true then (none) else (if (t368 != false) = true then (none) else (if t368 = true then (if t372 = true then (warrantorlaw08_DbmChecks_v0.j1 kj5 a3 a4 t367 t368 t369 false a0_0 l0_1) else (warrantorlaw08_DbmChecks_v0.j1 kj5 a3 a4 t367 t368 t369 ((t369.length : Int) != 0) a0_0 l0_1)) else (if t367 = 0 then (if t372 = true then (warrantorlaw08_DbmChecks_v0.j1 kj5 a3 a4 t367 t368 t369 false a0_0 l0_1) else (warrantorlaw08_DbmChecks_v0.j1 kj5 a3 a4 t367 t368 t369 ((t369.length : Int) != 0) a0_0 l0_1)) else (none)))))))))))) else (none)))))) else (none)) = some r := H
      have A27 := Aside0.mk A270
      clear A270
      by_cases c28 : t374 = true
      rotate_left
      · replace c28 := Bool.eq_false_iff.mpr c28
        subst c28
        have H1 : (none) = some r := by rw [if_neg (show ¬ (false = true) by decide)] at H; exact H
        clear H
        have H := H1
        clear H1
        exact absurd H (by simp)

      subst c28
      have H1 : ((dbm_Check.f kj5 a0_0 l0_1).bind fun t375 => (if ((t375 == 0) != t373) = true then (none) else (if t373 = true then (none) else ((dbm_Check.f kj5 a0_0 l0_1).bind fun t376 => (if t376 = 80 then ((dbm_Same.f kj5 a0_0 l0_1 a1_0 l1_1).bind fun t377 => ((warrantorref08_Same.f kj5 a0_0 l0_1 a1_0 l1_1).bind fun t378 => (if (t377 != t378) = true then (none) else ((dbm_Empty.f kj5 a0_0 l0_1).bind fun t379 => (if (t379 != false) = true then (none) else ((dbm_Has.f kj5 a0_0 l0_1 l2).bind fun t380 => (if (t380 != false) = true then (none) else (if (t372 != false) = true then (none) else (if (t368 != false) = true then (none) else (if t368 = true then (if t372 = true then (warrantorlaw08_DbmChecks_v0.j1 kj5 a3 a4 t367 t368 t369 false a0_0 l0_1) else (warrantorlaw08_DbmChecks_v0.j1 kj5 a3 a4 t367 t368 t369 ((t369.length : Int) != 0) a0_0 l0_1)) else (if t367 = 0 then (if t372 = true then (warrantorlaw08_DbmChecks_v0.j1 kj5 a3 a4 t367 t368 t369 false a0_0 l0_1) else (warrantorlaw08_DbmChecks_v0.j1 kj5 a3 a4 t367 t368 t369 ((t369.length : Int) != 0) a0_0 l0_1)) else (none)))))))))))) else (none)))))) = some r := by rw [if_pos rfl] at H; exact H
      clear H
      have H := H1
      clear H1
      replace H := Option.bind_eq_some_iff.mp H
      obtain ⟨t375, A290, H⟩ := H
      replace H : (if ((t375 == 0) != t373) = true then (none) else (if t373 = true then (none) else ((dbm_Check.f kj5 a0_0 l0_1).bind fun t376 => (if t376 = 80 then ((dbm_Same.f kj5 a0_0 l0_1 a1_0 l1_1).bind fun t377 => ((warrantorref08_Same.f kj5 a0_0 l0_1 a1_0 l1_1).bind fun t378 => (if (t377 != t378) = true then (none) else ((dbm_Empty.f kj5 a0_0 l0_1).bind fun t379 => (if (t379 != false) = true then (none) else ((dbm_Has.f kj5 a0_0 l0_1 l2).bind fun t380 => (if (t380 != false) = true then (none) else (if (t372 != false) = true then (none) else (if (t368 != false) = true then (none) else (if t368 = true then (if t372 = true then (warrantorlaw08_DbmChecks_v0.j1 kj5 a3 a4 t367 t368 t369 false a0_0 l0_1) else (warrantorlaw08_DbmChecks_v0.j1 kj5 a3 a4 t367 t368 t369 ((t369.length : Int) != 0) a0_0 l0_1)) else (if t367 = 0 then (if t372 = true then (warrantorlaw08_DbmChecks_v0.j1 kj5 a3 a4 t367 t368 t369 false a0_0 l0_1) else (warrantorlaw08_DbmChecks_v0.j1 kj5 a3 a4 t367 t368 t369 ((t369.length : Int) != 0) a0_0 l0_1)) else (none)))))))))))) else (none))))) = some r := H
      have A29 := Aside0.mk A290
      clear A290
      by_cases c30 : ((t375 == 0) != t373) = true
      · rw [if_pos c30] at H
        exact absurd H (by simp)
      rw [if_neg c30] at H
      have c30b0 : ((t375 == 0) != t373) = false := by simpa using c30
      (try (have c30b1 : decide ((t375 == 0) = t373) = true := by simpa using c30))
      (try (have c30b2 : ((t375 == 0) == t373) = true := by simpa using c30))
      clear c30
      by_cases c31 : t373 = true
      · subst c31
        have H1 : (none) = some r := by rw [if_pos rfl] at H; exact H
        clear H
        have H := H1
        clear H1
        exact absurd H (by simp)
      replace c31 := Bool.eq_false_iff.mpr c31
      subst c31
      have H1 : ((dbm_Check.f kj5 a0_0 l0_1).bind fun t376 => (if t376 = 80 then ((dbm_Same.f kj5 a0_0 l0_1 a1_0 l1_1).bind fun t377 => ((warrantorref08_Same.f kj5 a0_0 l0_1 a1_0 l1_1).bind fun t378 => (if (t377 != t378) = true then (none) else ((dbm_Empty.f kj5 a0_0 l0_1).bind fun t379 => (if (t379 != false) = true then (none) else ((dbm_Has.f kj5 a0_0 l0_1 l2).bind fun t380 => (if (t380 != false) = true then (none) else (if (t372 != false) = true then (none) else (if (t368 != false) = true then (none) else (if t368 = true then (if t372 = true then (warrantorlaw08_DbmChecks_v0.j1 kj5 a3 a4 t367 t368 t369 false a0_0 l0_1) else (warrantorlaw08_DbmChecks_v0.j1 kj5 a3 a4 t367 t368 t369 ((t369.length : Int) != 0) a0_0 l0_1)) else (if t367 = 0 then (if t372 = true then (warrantorlaw08_DbmChecks_v0.j1 kj5 a3 a4 t367 t368 t369 false a0_0 l0_1) else (warrantorlaw08_DbmChecks_v0.j1 kj5 a3 a4 t367 t368 t369 ((t369.length : Int) != 0) a0_0 l0_1)) else (none)))))))))))) else (none))) = some r := by rw [if_neg (show ¬ (false = true) by decide)] at H; exact H
      clear H
      have H := H1
      clear H1
      replace H := Option.bind_eq_some_iff.mp H
      obtain ⟨t376, A320, H⟩ := H
      replace H : (if t376 = 80 then ((dbm_Same.f kj5 a0_0 l0_1 a1_0 l1_1).bind fun t377 => ((warrantorref08_Same.f kj5 a0_0 l0_1 a1_0 l1_1).bind fun t378 => (if (t377 != t378) = true then (none) else ((dbm_Empty.f kj5 a0_0 l0_1).bind fun t379 => (if (t379 != false) = true then (none) else ((dbm_Has.f kj5 a0_0 l0_1 l2).bind fun t380 => (if (t380 != false) = true then (none) else (if (t372 != false) = true then (none) else (if (t368 != false) = true then (none) else (if t368 = true then (if t372 = true then (warrantorlaw08_DbmChecks_v0.j1 kj5 a3 a4 t367 t368 t369 false a0_0 l0_1) else (warrantorlaw08_DbmChecks_v0.j1 kj5 a3 a4 t367 t368 t369 ((t369.length : Int) != 0) a0_0 l0_1)) else (if t367 = 0 then (if t372 = true then (warrantorlaw08_DbmChecks_v0.j1 kj5 a3 a4 t367 t368 t369 false a0_0 l0_1) else (warrantorlaw08_DbmChecks_v0.j1 kj5 a3 a4 t367 t368 t369 ((t369.length : Int) != 0) a0_0 l0_1)) else (none)))))))))))) else (none)) = some r := H
      have A32 := Aside0.mk A320
      clear A320
      by_cases c33 : t376 = 80
      rotate_left
      · rw [if_neg c33] at H
        exact absurd H (by simp)
      rw [if_pos c33] at H
      have c33b0 : (t376 == 80) = true := beq_iff_eq.mpr c33
      have c33b1 : (t376 != 80) = false := bne_eq_false_iff_eq.mpr c33
      clear c33
      replace H := Option.bind_eq_some_iff.mp H
      obtain ⟨t377, A340, H⟩ := H
      replace H : ((warrantorref08_Same.f kj5 a0_0 l0_1 a1_0 l1_1).bind fun t378 => (if (t377 != t378) = true then (none) else ((dbm_Empty.f kj5 a0_0 l0_1).bind fun t379 => (if (t379 != false) = true then (none) else ((dbm_Has.f kj5 a0_0 l0_1 l2).bind fun t380 => (if (t380 != false) = true then (none) else (if (t372 != false) = true then (none) else (if (t368 != false) = true then (none) else (if t368 = true then (if t372 = true then (warrantorlaw08_DbmChecks_v0.j1 kj5 a3 a4 t367 t368 t369 false a0_0 l0_1) else (warrantorlaw08_DbmChecks_v0.j1 kj5 a3 a4 t367 t368 t369 ((t369.length : Int) != 0) a0_0 l0_1)) else (if t367 = 0 then (if t372 = true then (warrantorlaw08_DbmChecks_v0.j1 kj5 a3 a4 t367 t368 t369 false a0_0 l0_1) else (warrantorlaw08_DbmChecks_v0.j1 kj5 a3 a4 t367 t368 t369 ((t369.length : Int) != 0) a0_0 l0_1)) else (none))))))))))) = some r := H
      have A34 := Aside0.mk A340
      clear A340
      replace H := Option.bind_eq_some_iff.mp H
      obtain ⟨t378, A350, H⟩ := H
      replace H : (if (t377 != t378) = true then (none) else ((dbm_Empty.f kj5 a0_0 l0_1).bind fun t379 => (if (t379 != false) = true then (none) else ((dbm_Has.f kj5 a0_0 l0_1 l2).bind fun t380 => (if (t380 != false) = true then (none) else (if (t372 != false) = true then (none) else (if (t368 != false) = true then (none) else (if t368 = true then (if t372 = true then (warrantorlaw08_DbmChecks_v0.j1 kj5 a3 a4 t367 t368 t369 false a0_0 l0_1) else (warrantorlaw08_DbmChecks_v0.j1 kj5 a3 a4 t367 t368 t369 ((t369.length : Int) != 0) a0_0 l0_1)) else (if t367 = 0 then (if t372 = true then (warrantorlaw08_DbmChecks_v0.j1 kj5 a3 a4 t367 t368 t369 false a0_0 l0_1) else (warrantorlaw08_DbmChecks_v0.j1 kj5 a3 a4 t367 t368 t369 ((t369.length : Int) != 0) a0_0 l0_1)) else (none)))))))))) = some r := H
      have A35 := Aside0.mk A350
      clear A350
      by_cases c36 : (t377 != t378) = true
      · rw [if_pos c36] at H
        exact absurd H (by simp)
      rw [if_neg c36] at H
      have c36b0 : (t377 != t378) = false := by simpa using c36
      (try (have c36b1 : decide (t377 = t378) = true := by simpa using c36))
      (try (have c36b2 : (t377 == t378) = true := by simpa using c36))
      clear c36
      replace H := Option.bind_eq_some_iff.mp H
      obtain ⟨t379, A370, H⟩ := H
      replace H : (if (t379 != false) = true then (none) else ((dbm_Has.f kj5 a0_0 l0_1 l2).bind fun t380 => (if (t380 != false) = true then (none) else (if (t372 != false) = true then (none) else (if (t368 != false) = true then (none) else (if t368 = true then (if t372 = true then (warrantorlaw08_DbmChecks_v0.j1 kj5 a3 a4 t367 t368 t369 false a0_0 l0_1) else (warrantorlaw08_DbmChecks_v0.j1 kj5 a3 a4 t367 t368 t369 ((t369.length : Int) != 0) a0_0 l0_1)) else (if t367 = 0 then (if t372 = true then (warrantorlaw08_DbmChecks_v0.j1 kj5 a3 a4 t367 t368 t369 false a0_0 l0_1) else (warrantorlaw08_DbmChecks_v0.j1 kj5 a3 a4 t367 t368 t369 ((t369.length : Int) != 0) a0_0 l0_1)) else (none)))))))) = some r := H
      have A37 := Aside0.mk A370
      clear A370
      by_cases c38 : (t379 != false) = true
      · rw [if_pos c38] at H
        exact absurd H (by simp)
      rw [if_neg c38] at H
      have c38b0 : (t379 != false) = false := by simpa using c38
      (try (have c38b1 : decide (t379 = false) = true := by simpa using c38))
      (try (have c38b2 : (t379 == false) = true := by simpa using c38))
      clear c38
      replace H := Option.bind_eq_some_iff.mp H
      obtain ⟨t380, A390, H⟩ := H
      replace H : (if (t380 != false) = true then (none) else (if (t372 != false) = true then (none) else (if (t368 != false) = true then (none) else (if t368 = true then (if t372 = true then (warrantorlaw08_DbmChecks_v0.j1 kj5 a3 a4 t367 t368 t369 false a0_0 l0_1) else (warrantorlaw08_DbmChecks_v0.j1 kj5 a3 a4 t367 t368 t369 ((t369.length : Int) != 0) a0_0 l0_1)) else (if t367 = 0 then (if t372 = true then (warrantorlaw08_DbmChecks_v0.j1 kj5 a3 a4 t367 t368 t369 false a0_0 l0_1) else (warrantorlaw08_DbmChecks_v0.j1 kj5 a3 a4 t367 t368 t369 ((t369.length : Int) != 0) a0_0 l0_1)) else (none)))))) = some r := H
      have A39 := Aside0.mk A390
      clear A390
      by_cases c40 : (t380 != false) = true
      · rw [if_pos c40] at H
        exact absurd H (by simp)
      rw [if_neg c40] at H
      have c40b0 : (t380 != false) = false := by simpa using c40
      (try (have c40b1 : decide (t380 = false) = true := by simpa using c40))
      (try (have c40b2 : (t380 == false) = true := by simpa using c40))
      clear c40
      have HC41 := Aside0.mk H
      clear H
      have hnb42 := NB362_363.out
      have hnc42 := NB363_362.out
      have hcz43_0 : wc.cell? ⟨gb362, 0, none⟩ = some (.int .i64 a0_0) := (blk_cell BK362.out 0).trans rfl
      have hcz43_1 : wc.cell? ⟨gb362, 1, none⟩ = some (.slice A0_1 l0_1.length c0_1) := (blk_cell BK362.out 1).trans rfl
      have hfz43_0 := blk_frozen BK362.out 0
      have hfz43_1 := blk_frozen BK362.out 1
      try go_wp2_with (first | ((with_reducible refine gate_callee (f := 32) rfl ?_); refine goesL_ (some 35) rfl rfl Try.func32 (by kernel_rfl) rfl #[.agg #[.int .i64 a0_0, .slice A0_1 l0_1.length c0_1], .int .i64 a3, .int .i64 a4] rfl MP_ ?_; (with_reducible refine (dbm_Bound.calls kj5 a0_0 _ _ l0_1 a3 a4 t367 t368 _ ?side1 ?side2 A24.out).mono ?_); (case side1 => repeat (first | exact (Kd.C_below HR0_1.out HB.out) | (with_reducible refine Kd.C_alloc ?_ _) | (with_reducible refine Kd.C_drewN ?_ _) | (with_reducible refine Kd.C_drew ?_))); (case side2 => exact HC0_1.out); rintro e w44 ⟨rfl, hb⟩; refine ⟨_, rfl, ?_⟩; have n0_ := Aside0.mk (blk_below (g := gb362) (o := .cells #[.int .i64 a0_0, .slice A0_1 l0_1.length c0_1] 40 (0, 0)) (bk_ BK362.out) hb); have n1_ := Aside0.mk (blk_below (g := gb363) (o := .cells #[.int .i64 a1_0, .slice A1_1 l1_1.length c1_1] 40 (0, 0)) (bk_ BK363.out) hb); have n2_ := Aside0.mk (below_step HB_ hb); clear BK362; clear BK363; clear HB; have BK362 := n0_; have BK363 := n1_; have HB := n2_; clear n0_ n1_ n2_; (try clear hb); (try clear hb2); (try clear hk); (try clear hi); have hcz45_0 : w44.cell? ⟨gb362, 0, none⟩ = some (.int .i64 a0_0) := (blk_cell BK362.out 0).trans rfl; have hcz45_1 : w44.cell? ⟨gb362, 1, none⟩ = some (.slice A0_1 l0_1.length c0_1) := (blk_cell BK362.out 1).trans rfl; have hfz45_0 := blk_frozen BK362.out 0; have hfz45_1 := blk_frozen BK362.out 1) | ((with_reducible refine gate_callee (f := 33) rfl ?_); refine goesL_ (some 41) rfl rfl Try.func33 (by kernel_rfl) rfl #[.agg #[.int .i64 a0_0, .slice A0_1 l0_1.length c0_1], .int .i64 a4] rfl MP_ ?_; (with_reducible refine (dbm_Point.calls kj5 a0_0 _ _ l0_1 a4 t369 t372 _ ?side1 ?side2 A25.out).mono ?_); (case side1 => repeat (first | exact (Kd.C_below HR0_1.out HB.out) | (with_reducible refine Kd.C_alloc ?_ _) | (with_reducible refine Kd.C_drewN ?_ _) | (with_reducible refine Kd.C_drew ?_))); (case side2 => exact HC0_1.out); rintro e w46 ⟨v370, rfl, ho0, hb⟩; refine ⟨_, rfl, ?_⟩; have n0_ := Aside0.mk (Kd.R_lower ho0 (below_size HB_)); have n1_ := Aside0.mk (blk_below (g := gb362) (o := .cells #[.int .i64 a0_0, .slice A0_1 l0_1.length c0_1] 40 (0, 0)) (bk_ BK362.out) hb); have n2_ := Aside0.mk (blk_below (g := gb363) (o := .cells #[.int .i64 a1_0, .slice A1_1 l1_1.length c1_1] 40 (0, 0)) (bk_ BK363.out) hb); have n3_ := Aside0.mk (below_step HB_ hb); clear BK362; clear BK363; clear HB; have HO371 := n0_; have BK362 := n1_; have BK363 := n2_; have HB := n3_; clear n0_ n1_ n2_ n3_; (try clear hb); (try clear hb2); (try clear hk); (try clear hi); (try clear ho0); have hcz47_0 : w46.cell? ⟨gb362, 0, none⟩ = some (.int .i64 a0_0) := (blk_cell BK362.out 0).trans rfl; have hcz47_1 : w46.cell? ⟨gb362, 1, none⟩ = some (.slice A0_1 l0_1.length c0_1) := (blk_cell BK362.out 1).trans rfl; have hfz47_0 := blk_frozen BK362.out 0; have hfz47_1 := blk_frozen BK362.out 1) | ((with_reducible refine gate_callee (f := 34) rfl ?_); refine goesL_ (some 45) rfl rfl Try.func34 (by kernel_rfl) rfl #[.agg #[.int .i64 a0_0, .slice A0_1 l0_1.length c0_1]] rfl MP_ ?_; (with_reducible refine (warrantorref08_Check.calls kj5 a0_0 _ _ l0_1 false _ ?side1 ?side2 A26.out).mono ?_); (case side1 => repeat (first | exact (Kd.C_below HR0_1.out HB.out) | (with_reducible refine Kd.C_alloc ?_ _) | (with_reducible refine Kd.C_drewN ?_ _) | (with_reducible refine Kd.C_drew ?_))); (case side2 => exact HC0_1.out); rintro e w48 ⟨rfl, hb⟩; refine ⟨_, rfl, ?_⟩; have n0_ := Aside0.mk (Kd.R_below (by (with_reducible repeat (first | apply Kd.R_alloc | apply Kd.R_drewN | apply Kd.R_drew)); exact HO371.out) hb); have n1_ := Aside0.mk (blk_below (g := gb362) (o := .cells #[.int .i64 a0_0, .slice A0_1 l0_1.length c0_1] 40 (0, 0)) (bk_ BK362.out) hb); have n2_ := Aside0.mk (blk_below (g := gb363) (o := .cells #[.int .i64 a1_0, .slice A1_1 l1_1.length c1_1] 40 (0, 0)) (bk_ BK363.out) hb); have n3_ := Aside0.mk (below_step HB_ hb); clear HO371; clear BK362; clear BK363; clear HB; have HO371 := n0_; have BK362 := n1_; have BK363 := n2_; have HB := n3_; clear n0_ n1_ n2_ n3_; (try clear hb); (try clear hb2); (try clear hk); (try clear hi)))
      first | (obtain ⟨w48, hq_⟩ : ∃ x, x = w48.drewN nd := ⟨_, rfl⟩; rw [← hq_]; have q0_ := Aside0.mk (Kd.R_drewN HO371.out nd); rw [← hq_] at q0_; have q1_ := Aside0.mk (blk_drewN BK362.out nd); rw [← hq_] at q1_; have q2_ := Aside0.mk (blk_drewN BK363.out nd); rw [← hq_] at q2_; have q3_ := Aside0.mk (pw_below_drewN HB.out nd); rw [← hq_] at q3_; clear HO371; clear BK362; clear BK363; clear HB; have HO371 := q0_; have BK362 := q1_; have BK363 := q2_; have HB := q3_; clear hq_ q0_ q1_ q2_ q3_) | skip
      have n0_ := Aside0.mk (Kd.R_drew HO371.out)
      have n1_ := Aside0.mk (blk_drew BK362.out)
      have n2_ := Aside0.mk (blk_drew BK363.out)
      have n3_ := Aside0.mk (below_drew1 HB.out)
      clear HO371
      clear BK362
      clear BK363
      clear HB
      have HO371 := n0_
      have BK362 := n1_
      have BK363 := n2_
      have HB := n3_
      clear n0_ n1_ n2_ n3_
      refine start_ (n := 51) (S := fun w' => w'.cell? ⟨gb362, 0, none⟩ = some (.int .i64 a0_0) ∧ w'.cell? ⟨gb362, 1, none⟩ = some (.slice A0_1 l0_1.length c0_1) ∧ w'.cell? ⟨gb363, 0, none⟩ = some (.int .i64 a1_0) ∧ w'.cell? ⟨gb363, 1, none⟩ = some (.slice A1_1 l1_1.length c1_1)) (ds := []) #[false, false, false, false, false, false, false, false, false, false, false, false, false, false, false, false, false, false, false, false, false, false, false, false, false, false, false, false, false, false, false, false, false, false, false, false, false, false, false, false, false, false, false, false, false, false, false, false, false, false, false] (by kernel_rfl) rfl rfl ⟨(blk_cell BK362.out 0).trans rfl, (blk_cell BK362.out 1).trans rfl, (blk_cell BK363.out 0).trans rfl, (blk_cell BK363.out 1).trans rfl⟩ (fun hHeld => ?_); refine with_tabW warrantorlaw08_DbmChecks_v0.tab6 warrantorlaw08_DbmChecks_v0.bits6 (fun HT_ HW_ => ?_)
      generalize w48.drew = w49 at HO371 BK362 BK363 HB hHeld ⊢
      refine one_ (i := 0) (N := some 46) #[true, false, false, false, false, false, false, false, false, false, false, false, false, false, false, false, false, false, false, false, false, false, false, false, false, false, false, false, false, false, false, false, false, false, false, false, false, false, false, false, false, false, false, false, false, false, false, false, false, false, false] rfl rfl (one_of HT_.out (by kernel_rfl)) (by decide) (fun K hK => ?_)
      refine goes_ Try.func22 (by kernel_rfl) rfl #[] (by rfl) rfl rfl MP_ ?_
      with_reducible refine (warrantorlaw08_lives.calls kj5  true _ A27.out).mono ?_
      rintro e w50 ⟨rfl, hb⟩
      refine ⟨_, rfl, ?_⟩
      have n0_ := Aside0.mk (Kd.R_below (by (with_reducible repeat (first | apply Kd.R_alloc | apply Kd.R_drewN | apply Kd.R_drew)); exact HO371.out) hb)
      have n1_ := Aside0.mk (blk_below (g := gb362) (o := .cells #[.int .i64 a0_0, .slice A0_1 l0_1.length c0_1] 40 (0, 0)) (bk_ BK362.out) hb)
      have n2_ := Aside0.mk (blk_below (g := gb363) (o := .cells #[.int .i64 a1_0, .slice A1_1 l1_1.length c1_1] 40 (0, 0)) (bk_ BK363.out) hb)
      have n3_ := Aside0.mk (below_step HB_ hb)
      clear HO371
      clear BK362
      clear BK363
      clear HB
      have HO371 := n0_
      have BK362 := n1_
      have BK363 := n2_
      have HB := n3_
      clear n0_ n1_ n2_ n3_
      (try clear hb)
      (try clear hb2)
      (try clear hk)
      (try clear hi)
      refine hK.out _ _ ⟨(blk_cell BK362.out 0).trans rfl, (blk_cell BK362.out 1).trans rfl, (blk_cell BK363.out 0).trans rfl, (blk_cell BK363.out 1).trans rfl⟩ (fun hHeld => ?_)
      clear hK K
      refine norm_ (a' := ?_) ?_ ?_
      rotate_left
      · show Act.put _ (some 46) _ = _
        simp only [Act.put, List.setIfInBounds_toArray, List.set_cons_zero, List.set_cons_succ, i64_w, i32_w]
        rfl
      refine pure_ (i := 1) (N := some 47) (v := ?_) (a' := ?_) #[true, true, false, false, false, false, false, false, false, false, false, false, false, false, false, false, false, false, false, false, false, false, false, false, false, false, false, false, false, false, false, false, false, false, false, false, false, false, false, false, false, false, false, false, false, false, false, false, false, false, false] rfl rfl (any_of HT_.out (by kernel_rfl)) (fun _ _ _ h => h) (Or.inl ⟨by rfl, ?_⟩) ?_ ?_
      rotate_left
      · intro w'
        go_simp
        with_reducible rfl
      rotate_left
      · exact AP_
      refine pure_ (i := 2) (N := some 48) (v := ?_) (a' := ?_) #[true, true, true, false, false, false, false, false, false, false, false, false, false, false, false, false, false, false, false, false, false, false, false, false, false, false, false, false, false, false, false, false, false, false, false, false, false, false, false, false, false, false, false, false, false, false, false, false, false, false, false] rfl rfl (any_of HT_.out (by kernel_rfl)) (fun _ _ _ h => h) (Or.inl ⟨by rfl, ?_⟩) ?_ ?_
      rotate_left
      · intro w'
        go_simp
        with_reducible rfl
      rotate_left
      · exact AP_
      refine pure_ (i := 6) (N := some 52) (v := ?_) (a' := ?_) #[true, true, true, false, false, false, true, false, false, false, false, false, false, false, false, false, false, false, false, false, false, false, false, false, false, false, false, false, false, false, false, false, false, false, false, false, false, false, false, false, false, false, false, false, false, false, false, false, false, false, false] rfl rfl (any_of HT_.out (by kernel_rfl)) (fun _ _ _ h => h) (Or.inl ⟨by rfl, ?_⟩) ?_ ?_
      rotate_left
      · intro w'
        go_simp
        with_reducible rfl
      rotate_left
      · exact AP_
      refine take_ (i := 3) (N := some 49) (v := ?_) (a' := ?_) #[true, true, true, true, false, false, true, false, false, false, false, false, false, false, false, false, false, false, false, false, false, false, false, false, false, false, false, false, false, false, false, false, false, false, false, false, false, false, false, false, false, false, false, false, false, false, false, false, false, false, false] rfl rfl (take_ofW HT_.out HW_.out (by kernel_rfl)) (fun _ _ _ h => h) (Or.inl ⟨by rfl, ?_⟩) hHeld ?_ ?_
      rotate_left
      · rintro w' ⟨s0, s1, s2, s3⟩
        go_simp
        with_reducible rfl
      rotate_left
      · exact AP_
      refine one_ (i := 4) (N := some 50) #[true, true, true, true, true, false, true, false, false, false, false, false, false, false, false, false, false, false, false, false, false, false, false, false, false, false, false, false, false, false, false, false, false, false, false, false, false, false, false, false, false, false, false, false, false, false, false, false, false, false, false] rfl rfl (one_of HT_.out (by kernel_rfl)) (by decide) (fun K hK => ?_)
      refine goes_ Try.func30 (by kernel_rfl) rfl #[.agg #[.int .i64 a0_0, .slice A0_1 l0_1.length c0_1]] (by rfl) rfl rfl MP_ ?_
      with_reducible refine (dbm_Check.calls kj5 a0_0 _ _ l0_1 t375 _ ?side1 ?side2 A29.out).mono ?_
      (case side1 => repeat (first | exact (Kd.C_below HR0_1.out HB.out) | (with_reducible refine Kd.C_alloc ?_ _) | (with_reducible refine Kd.C_drewN ?_ _) | (with_reducible refine Kd.C_drew ?_)))
      (case side2 => exact HC0_1.out)
      rintro e w51 ⟨rfl, hb⟩
      refine ⟨_, rfl, ?_⟩
      have n0_ := Aside0.mk (Kd.R_below (by (with_reducible repeat (first | apply Kd.R_alloc | apply Kd.R_drewN | apply Kd.R_drew)); exact HO371.out) hb)
      have n1_ := Aside0.mk (blk_below (g := gb362) (o := .cells #[.int .i64 a0_0, .slice A0_1 l0_1.length c0_1] 40 (0, 0)) (bk_ BK362.out) hb)
      have n2_ := Aside0.mk (blk_below (g := gb363) (o := .cells #[.int .i64 a1_0, .slice A1_1 l1_1.length c1_1] 40 (0, 0)) (bk_ BK363.out) hb)
      have n3_ := Aside0.mk (below_step HB_ hb)
      clear HO371
      clear BK362
      clear BK363
      clear HB
      have HO371 := n0_
      have BK362 := n1_
      have BK363 := n2_
      have HB := n3_
      clear n0_ n1_ n2_ n3_
      (try clear hb)
      (try clear hb2)
      (try clear hk)
      (try clear hi)
      refine hK.out _ _ ⟨(blk_cell BK362.out 0).trans rfl, (blk_cell BK362.out 1).trans rfl, (blk_cell BK363.out 0).trans rfl, (blk_cell BK363.out 1).trans rfl⟩ (fun hHeld => ?_)
      clear hK K
      refine norm_ (a' := ?_) ?_ ?_
      rotate_left
      · show Act.put _ (some 50) _ = _
        simp only [Act.put, List.setIfInBounds_toArray, List.set_cons_zero, List.set_cons_succ, i64_w, i32_w]
        rfl
      refine pure_ (i := 5) (N := some 51) (v := ?_) (a' := ?_) #[true, true, true, true, true, true, true, false, false, false, false, false, false, false, false, false, false, false, false, false, false, false, false, false, false, false, false, false, false, false, false, false, false, false, false, false, false, false, false, false, false, false, false, false, false, false, false, false, false, false, false] rfl rfl (any_of HT_.out (by kernel_rfl)) (fun _ _ _ h => h) (Or.inl ⟨by rfl, ?_⟩) ?_ ?_
      rotate_left
      · intro w'
        go_simp
        with_reducible rfl
      rotate_left
      · exact AP_
      refine pure_ (i := 7) (N := some 53) (v := ?_) (a' := ?_) #[true, true, true, true, true, true, true, true, false, false, false, false, false, false, false, false, false, false, false, false, false, false, false, false, false, false, false, false, false, false, false, false, false, false, false, false, false, false, false, false, false, false, false, false, false, false, false, false, false, false, false] rfl rfl (any_of HT_.out (by kernel_rfl)) (fun _ _ _ h => h) (Or.inl ⟨by rfl, ?_⟩) ?_ ?_
      rotate_left
      · intro w'
        go_simp
        with_reducible rfl
      rotate_left
      · exact AP_
      refine pure_ (i := 8) (N := some 54) (v := ?_) (a' := ?_) #[true, true, true, true, true, true, true, true, true, false, false, false, false, false, false, false, false, false, false, false, false, false, false, false, false, false, false, false, false, false, false, false, false, false, false, false, false, false, false, false, false, false, false, false, false, false, false, false, false, false, false] rfl rfl (any_of HT_.out (by kernel_rfl)) (fun _ _ _ h => h) (Or.inl ⟨by rfl, ?_⟩) ?_ ?_
      rotate_left
      · intro w'
        go_simp
        with_reducible rfl
      rotate_left
      · exact AP_
      refine pure_ (i := 9) (N := some 55) (v := ?_) (a' := ?_) #[true, true, true, true, true, true, true, true, true, true, false, false, false, false, false, false, false, false, false, false, false, false, false, false, false, false, false, false, false, false, false, false, false, false, false, false, false, false, false, false, false, false, false, false, false, false, false, false, false, false, false] rfl rfl (any_of HT_.out (by kernel_rfl)) (fun _ _ _ h => h) (Or.inl ⟨by rfl, ?_⟩) ?_ ?_
      rotate_left
      · intro w'
        go_simp
        with_reducible rfl
      rotate_left
      · exact AP_
      refine pure_ (i := 10) (N := some 56) (v := ?_) (a' := ?_) #[true, true, true, true, true, true, true, true, true, true, true, false, false, false, false, false, false, false, false, false, false, false, false, false, false, false, false, false, false, false, false, false, false, false, false, false, false, false, false, false, false, false, false, false, false, false, false, false, false, false, false] rfl rfl (any_of HT_.out (by kernel_rfl)) (fun _ _ _ h => h) (Or.inl ⟨by rfl, ?_⟩) ?_ ?_
      rotate_left
      · intro w'
        go_simp
        with_reducible rfl
      rotate_left
      · exact AP_
      refine pure_ (i := 11) (N := some 57) (v := ?_) (a' := ?_) #[true, true, true, true, true, true, true, true, true, true, true, true, false, false, false, false, false, false, false, false, false, false, false, false, false, false, false, false, false, false, false, false, false, false, false, false, false, false, false, false, false, false, false, false, false, false, false, false, false, false, false] rfl rfl (any_of HT_.out (by kernel_rfl)) (fun _ _ _ h => h) (Or.inl ⟨by rfl, ?_⟩) ?_ ?_
      rotate_left
      · intro w'
        go_simp
        with_reducible rfl
      rotate_left
      · exact AP_
      refine pure_ (i := 12) (N := some 58) (v := ?_) (a' := ?_) #[true, true, true, true, true, true, true, true, true, true, true, true, true, false, false, false, false, false, false, false, false, false, false, false, false, false, false, false, false, false, false, false, false, false, false, false, false, false, false, false, false, false, false, false, false, false, false, false, false, false, false] rfl rfl (any_of HT_.out (by kernel_rfl)) (fun _ _ _ h => h) (Or.inl ⟨by rfl, ?_⟩) ?_ ?_
      rotate_left
      · intro w'
        go_simp
        with_reducible rfl
      rotate_left
      · exact AP_
      refine take_ (i := 13) (N := some 59) (v := ?_) (a' := ?_) #[true, true, true, true, true, true, true, true, true, true, true, true, true, true, false, false, false, false, false, false, false, false, false, false, false, false, false, false, false, false, false, false, false, false, false, false, false, false, false, false, false, false, false, false, false, false, false, false, false, false, false] rfl rfl (take_ofW HT_.out HW_.out (by kernel_rfl)) (fun _ _ _ h => h) (Or.inl ⟨by rfl, ?_⟩) hHeld ?_ ?_
      rotate_left
      · rintro w' ⟨s0, s1, s2, s3⟩
        go_simp
        with_reducible rfl
      rotate_left
      · exact AP_
      refine one_ (i := 14) (N := some 60) #[true, true, true, true, true, true, true, true, true, true, true, true, true, true, true, false, false, false, false, false, false, false, false, false, false, false, false, false, false, false, false, false, false, false, false, false, false, false, false, false, false, false, false, false, false, false, false, false, false, false, false] rfl rfl (one_of HT_.out (by kernel_rfl)) (by decide) (fun K hK => ?_)
      refine goes_ Try.func30 (by kernel_rfl) rfl #[.agg #[.int .i64 a0_0, .slice A0_1 l0_1.length c0_1]] (by rfl) rfl rfl MP_ ?_
      with_reducible refine (dbm_Check.calls kj5 a0_0 _ _ l0_1 t376 _ ?side1 ?side2 A32.out).mono ?_
      (case side1 => repeat (first | exact (Kd.C_below HR0_1.out HB.out) | (with_reducible refine Kd.C_alloc ?_ _) | (with_reducible refine Kd.C_drewN ?_ _) | (with_reducible refine Kd.C_drew ?_)))
      (case side2 => exact HC0_1.out)
      rintro e w52 ⟨rfl, hb⟩
      refine ⟨_, rfl, ?_⟩
      have n0_ := Aside0.mk (Kd.R_below (by (with_reducible repeat (first | apply Kd.R_alloc | apply Kd.R_drewN | apply Kd.R_drew)); exact HO371.out) hb)
      have n1_ := Aside0.mk (blk_below (g := gb362) (o := .cells #[.int .i64 a0_0, .slice A0_1 l0_1.length c0_1] 40 (0, 0)) (bk_ BK362.out) hb)
      have n2_ := Aside0.mk (blk_below (g := gb363) (o := .cells #[.int .i64 a1_0, .slice A1_1 l1_1.length c1_1] 40 (0, 0)) (bk_ BK363.out) hb)
      have n3_ := Aside0.mk (below_step HB_ hb)
      clear HO371
      clear BK362
      clear BK363
      clear HB
      have HO371 := n0_
      have BK362 := n1_
      have BK363 := n2_
      have HB := n3_
      clear n0_ n1_ n2_ n3_
      (try clear hb)
      (try clear hb2)
      (try clear hk)
      (try clear hi)
      refine hK.out _ _ ⟨(blk_cell BK362.out 0).trans rfl, (blk_cell BK362.out 1).trans rfl, (blk_cell BK363.out 0).trans rfl, (blk_cell BK363.out 1).trans rfl⟩ (fun hHeld => ?_)
      clear hK K
      refine norm_ (a' := ?_) ?_ ?_
      rotate_left
      · show Act.put _ (some 60) _ = _
        simp only [Act.put, List.setIfInBounds_toArray, List.set_cons_zero, List.set_cons_succ, i64_w, i32_w]
        rfl
      refine pure_ (i := 15) (N := some 61) (v := ?_) (a' := ?_) #[true, true, true, true, true, true, true, true, true, true, true, true, true, true, true, true, false, false, false, false, false, false, false, false, false, false, false, false, false, false, false, false, false, false, false, false, false, false, false, false, false, false, false, false, false, false, false, false, false, false, false] rfl rfl (any_of HT_.out (by kernel_rfl)) (fun _ _ _ h => h) (Or.inl ⟨by rfl, ?_⟩) ?_ ?_
      rotate_left
      · intro w'
        go_simp
        with_reducible rfl
      rotate_left
      · exact AP_
      refine pure_ (i := 16) (N := some 62) (v := ?_) (a' := ?_) #[true, true, true, true, true, true, true, true, true, true, true, true, true, true, true, true, true, false, false, false, false, false, false, false, false, false, false, false, false, false, false, false, false, false, false, false, false, false, false, false, false, false, false, false, false, false, false, false, false, false, false] rfl rfl (any_of HT_.out (by kernel_rfl)) (fun _ _ _ h => h) (Or.inl ⟨by rfl, ?_⟩) ?_ ?_
      rotate_left
      · intro w'
        go_simp
        with_reducible rfl
      rotate_left
      · exact AP_
      refine pure_ (i := 17) (N := some 63) (v := ?_) (a' := ?_) #[true, true, true, true, true, true, true, true, true, true, true, true, true, true, true, true, true, true, false, false, false, false, false, false, false, false, false, false, false, false, false, false, false, false, false, false, false, false, false, false, false, false, false, false, false, false, false, false, false, false, false] rfl rfl (any_of HT_.out (by kernel_rfl)) (fun _ _ _ h => h) (Or.inl ⟨by rfl, ?_⟩) ?_ ?_
      rotate_left
      · intro w'
        go_simp
        with_reducible rfl
      rotate_left
      · exact AP_
      refine pure_ (i := 18) (N := some 64) (v := ?_) (a' := ?_) #[true, true, true, true, true, true, true, true, true, true, true, true, true, true, true, true, true, true, true, false, false, false, false, false, false, false, false, false, false, false, false, false, false, false, false, false, false, false, false, false, false, false, false, false, false, false, false, false, false, false, false] rfl rfl (any_of HT_.out (by kernel_rfl)) (fun _ _ _ h => h) (Or.inl ⟨by rfl, ?_⟩) ?_ ?_
      rotate_left
      · intro w'
        go_simp
        with_reducible rfl
      rotate_left
      · exact AP_
      refine take_ (i := 19) (N := some 65) (v := ?_) (a' := ?_) #[true, true, true, true, true, true, true, true, true, true, true, true, true, true, true, true, true, true, true, true, false, false, false, false, false, false, false, false, false, false, false, false, false, false, false, false, false, false, false, false, false, false, false, false, false, false, false, false, false, false, false] rfl rfl (take_ofW HT_.out HW_.out (by kernel_rfl)) (fun _ _ _ h => h) (Or.inl ⟨by rfl, ?_⟩) hHeld ?_ ?_
      rotate_left
      · rintro w' ⟨s0, s1, s2, s3⟩
        go_simp
        with_reducible rfl
      rotate_left
      · exact AP_
      refine take_ (i := 20) (N := some 66) (v := ?_) (a' := ?_) #[true, true, true, true, true, true, true, true, true, true, true, true, true, true, true, true, true, true, true, true, true, false, false, false, false, false, false, false, false, false, false, false, false, false, false, false, false, false, false, false, false, false, false, false, false, false, false, false, false, false, false] rfl rfl (take_ofW HT_.out HW_.out (by kernel_rfl)) (fun _ _ _ h => h) (Or.inl ⟨by rfl, ?_⟩) hHeld ?_ ?_
      rotate_left
      · rintro w' ⟨s0, s1, s2, s3⟩
        go_simp
        with_reducible rfl
      rotate_left
      · exact AP_
      refine take_ (i := 22) (N := some 68) (v := ?_) (a' := ?_) #[true, true, true, true, true, true, true, true, true, true, true, true, true, true, true, true, true, true, true, true, true, false, true, false, false, false, false, false, false, false, false, false, false, false, false, false, false, false, false, false, false, false, false, false, false, false, false, false, false, false, false] rfl rfl (take_ofW HT_.out HW_.out (by kernel_rfl)) (fun _ _ _ h => h) (Or.inl ⟨by rfl, ?_⟩) hHeld ?_ ?_
      rotate_left
      · rintro w' ⟨s0, s1, s2, s3⟩
        go_simp
        with_reducible rfl
      rotate_left
      · exact AP_
      refine take_ (i := 23) (N := some 69) (v := ?_) (a' := ?_) #[true, true, true, true, true, true, true, true, true, true, true, true, true, true, true, true, true, true, true, true, true, false, true, true, false, false, false, false, false, false, false, false, false, false, false, false, false, false, false, false, false, false, false, false, false, false, false, false, false, false, false] rfl rfl (take_ofW HT_.out HW_.out (by kernel_rfl)) (fun _ _ _ h => h) (Or.inl ⟨by rfl, ?_⟩) hHeld ?_ ?_
      rotate_left
      · rintro w' ⟨s0, s1, s2, s3⟩
        go_simp
        with_reducible rfl
      rotate_left
      · exact AP_
      refine one_ (i := 21) (N := some 67) #[true, true, true, true, true, true, true, true, true, true, true, true, true, true, true, true, true, true, true, true, true, true, true, true, false, false, false, false, false, false, false, false, false, false, false, false, false, false, false, false, false, false, false, false, false, false, false, false, false, false, false] rfl rfl (one_of HT_.out (by kernel_rfl)) (by decide) (fun K hK => ?_)
      refine goes_ Try.func26 (by kernel_rfl) rfl #[.agg #[.int .i64 a0_0, .slice A0_1 l0_1.length c0_1], .agg #[.int .i64 a1_0, .slice A1_1 l1_1.length c1_1]] (by rfl) rfl rfl MP_ ?_
      with_reducible refine (dbm_Same.calls kj5 a0_0 _ _ l0_1 a1_0 _ _ l1_1 t377 _ ?side1 ?side2 ?side3 ?side4 A34.out).mono ?_
      (case side1 => repeat (first | exact (Kd.C_below HR0_1.out HB.out) | (with_reducible refine Kd.C_alloc ?_ _) | (with_reducible refine Kd.C_drewN ?_ _) | (with_reducible refine Kd.C_drew ?_)))
      (case side2 => exact HC0_1.out)
      (case side3 => repeat (first | exact (Kd.C_below HR1_1.out HB.out) | (with_reducible refine Kd.C_alloc ?_ _) | (with_reducible refine Kd.C_drewN ?_ _) | (with_reducible refine Kd.C_drew ?_)))
      (case side4 => exact HC1_1.out)
      rintro e w53 ⟨rfl, hb⟩
      refine ⟨_, rfl, ?_⟩
      have n0_ := Aside0.mk (Kd.R_below (by (with_reducible repeat (first | apply Kd.R_alloc | apply Kd.R_drewN | apply Kd.R_drew)); exact HO371.out) hb)
      have n1_ := Aside0.mk (blk_below (g := gb362) (o := .cells #[.int .i64 a0_0, .slice A0_1 l0_1.length c0_1] 40 (0, 0)) (bk_ BK362.out) hb)
      have n2_ := Aside0.mk (blk_below (g := gb363) (o := .cells #[.int .i64 a1_0, .slice A1_1 l1_1.length c1_1] 40 (0, 0)) (bk_ BK363.out) hb)
      have n3_ := Aside0.mk (below_step HB_ hb)
      clear HO371
      clear BK362
      clear BK363
      clear HB
      have HO371 := n0_
      have BK362 := n1_
      have BK363 := n2_
      have HB := n3_
      clear n0_ n1_ n2_ n3_
      (try clear hb)
      (try clear hb2)
      (try clear hk)
      (try clear hi)
      refine hK.out _ _ ⟨(blk_cell BK362.out 0).trans rfl, (blk_cell BK362.out 1).trans rfl, (blk_cell BK363.out 0).trans rfl, (blk_cell BK363.out 1).trans rfl⟩ (fun hHeld => ?_)
      clear hK K
      refine norm_ (a' := ?_) ?_ ?_
      rotate_left
      · show Act.put _ (some 67) _ = _
        simp only [Act.put, List.setIfInBounds_toArray, List.set_cons_zero, List.set_cons_succ, i64_w, i32_w]
        rfl
      refine one_ (i := 24) (N := some 70) #[true, true, true, true, true, true, true, true, true, true, true, true, true, true, true, true, true, true, true, true, true, true, true, true, true, false, false, false, false, false, false, false, false, false, false, false, false, false, false, false, false, false, false, false, false, false, false, false, false, false, false] rfl rfl (one_of HT_.out (by kernel_rfl)) (by decide) (fun K hK => ?_)
      refine goes_ Try.func27 (by kernel_rfl) rfl #[.agg #[.int .i64 a0_0, .slice A0_1 l0_1.length c0_1], .agg #[.int .i64 a1_0, .slice A1_1 l1_1.length c1_1]] (by rfl) rfl rfl MP_ ?_
      with_reducible refine (warrantorref08_Same.calls kj5 a0_0 _ _ l0_1 a1_0 _ _ l1_1 t378 _ ?side1 ?side2 ?side3 ?side4 A35.out).mono ?_
      (case side1 => repeat (first | exact (Kd.C_below HR0_1.out HB.out) | (with_reducible refine Kd.C_alloc ?_ _) | (with_reducible refine Kd.C_drewN ?_ _) | (with_reducible refine Kd.C_drew ?_)))
      (case side2 => exact HC0_1.out)
      (case side3 => repeat (first | exact (Kd.C_below HR1_1.out HB.out) | (with_reducible refine Kd.C_alloc ?_ _) | (with_reducible refine Kd.C_drewN ?_ _) | (with_reducible refine Kd.C_drew ?_)))
      (case side4 => exact HC1_1.out)
      rintro e w54 ⟨rfl, hb⟩
      refine ⟨_, rfl, ?_⟩
      have n0_ := Aside0.mk (Kd.R_below (by (with_reducible repeat (first | apply Kd.R_alloc | apply Kd.R_drewN | apply Kd.R_drew)); exact HO371.out) hb)
      have n1_ := Aside0.mk (blk_below (g := gb362) (o := .cells #[.int .i64 a0_0, .slice A0_1 l0_1.length c0_1] 40 (0, 0)) (bk_ BK362.out) hb)
      have n2_ := Aside0.mk (blk_below (g := gb363) (o := .cells #[.int .i64 a1_0, .slice A1_1 l1_1.length c1_1] 40 (0, 0)) (bk_ BK363.out) hb)
      have n3_ := Aside0.mk (below_step HB_ hb)
      clear HO371
      clear BK362
      clear BK363
      clear HB
      have HO371 := n0_
      have BK362 := n1_
      have BK363 := n2_
      have HB := n3_
      clear n0_ n1_ n2_ n3_
      (try clear hb)
      (try clear hb2)
      (try clear hk)
      (try clear hi)
      refine hK.out _ _ ⟨(blk_cell BK362.out 0).trans rfl, (blk_cell BK362.out 1).trans rfl, (blk_cell BK363.out 0).trans rfl, (blk_cell BK363.out 1).trans rfl⟩ (fun hHeld => ?_)
      clear hK K
      refine norm_ (a' := ?_) ?_ ?_
      rotate_left
      · show Act.put _ (some 70) _ = _
        simp only [Act.put, List.setIfInBounds_toArray, List.set_cons_zero, List.set_cons_succ, i64_w, i32_w]
        rfl
      refine pure_ (i := 25) (N := some 71) (v := ?_) (a' := ?_) #[true, true, true, true, true, true, true, true, true, true, true, true, true, true, true, true, true, true, true, true, true, true, true, true, true, true, false, false, false, false, false, false, false, false, false, false, false, false, false, false, false, false, false, false, false, false, false, false, false, false, false] rfl rfl (any_of HT_.out (by kernel_rfl)) (fun _ _ _ h => h) (Or.inl ⟨by rfl, ?_⟩) ?_ ?_
      rotate_left
      · intro w'
        go_simp
        with_reducible rfl
      rotate_left
      · exact AP_
      refine pure_ (i := 26) (N := some 72) (v := ?_) (a' := ?_) #[true, true, true, true, true, true, true, true, true, true, true, true, true, true, true, true, true, true, true, true, true, true, true, true, true, true, true, false, false, false, false, false, false, false, false, false, false, false, false, false, false, false, false, false, false, false, false, false, false, false, false] rfl rfl (any_of HT_.out (by kernel_rfl)) (fun _ _ _ h => h) (Or.inl ⟨by rfl, ?_⟩) ?_ ?_
      rotate_left
      · intro w'
        go_simp
        with_reducible rfl
      rotate_left
      · exact AP_
      refine pure_ (i := 27) (N := some 73) (v := ?_) (a' := ?_) #[true, true, true, true, true, true, true, true, true, true, true, true, true, true, true, true, true, true, true, true, true, true, true, true, true, true, true, true, false, false, false, false, false, false, false, false, false, false, false, false, false, false, false, false, false, false, false, false, false, false, false] rfl rfl (any_of HT_.out (by kernel_rfl)) (fun _ _ _ h => h) (Or.inl ⟨by rfl, ?_⟩) ?_ ?_
      rotate_left
      · intro w'
        go_simp
        with_reducible rfl
      rotate_left
      · exact AP_
      refine pure_ (i := 30) (N := some 76) (v := ?_) (a' := ?_) #[true, true, true, true, true, true, true, true, true, true, true, true, true, true, true, true, true, true, true, true, true, true, true, true, true, true, true, true, false, false, true, false, false, false, false, false, false, false, false, false, false, false, false, false, false, false, false, false, false, false, false] rfl rfl (any_of HT_.out (by kernel_rfl)) (fun _ _ _ h => h) (Or.inl ⟨by rfl, ?_⟩) ?_ ?_
      rotate_left
      · intro w'
        go_simp
        with_reducible rfl
      rotate_left
      · exact AP_
      refine take_ (i := 28) (N := some 74) (v := ?_) (a' := ?_) #[true, true, true, true, true, true, true, true, true, true, true, true, true, true, true, true, true, true, true, true, true, true, true, true, true, true, true, true, true, false, true, false, false, false, false, false, false, false, false, false, false, false, false, false, false, false, false, false, false, false, false] rfl rfl (take_ofW HT_.out HW_.out (by kernel_rfl)) (fun _ _ _ h => h) (Or.inl ⟨by rfl, ?_⟩) hHeld ?_ ?_
      rotate_left
      · rintro w' ⟨s0, s1, s2, s3⟩
        go_simp
        with_reducible rfl
      rotate_left
      · exact AP_
      refine one_ (i := 29) (N := some 75) #[true, true, true, true, true, true, true, true, true, true, true, true, true, true, true, true, true, true, true, true, true, true, true, true, true, true, true, true, true, true, true, false, false, false, false, false, false, false, false, false, false, false, false, false, false, false, false, false, false, false, false] rfl rfl (one_of HT_.out (by kernel_rfl)) (by decide) (fun K hK => ?_)
      refine goes_ Try.func31 (by kernel_rfl) rfl #[.agg #[.int .i64 a0_0, .slice A0_1 l0_1.length c0_1]] (by rfl) rfl rfl MP_ ?_
      with_reducible refine (dbm_Empty.calls kj5 a0_0 _ _ l0_1 t379 _ ?side1 ?side2 A37.out).mono ?_
      (case side1 => repeat (first | exact (Kd.C_below HR0_1.out HB.out) | (with_reducible refine Kd.C_alloc ?_ _) | (with_reducible refine Kd.C_drewN ?_ _) | (with_reducible refine Kd.C_drew ?_)))
      (case side2 => exact HC0_1.out)
      rintro e w55 ⟨rfl, hb⟩
      refine ⟨_, rfl, ?_⟩
      have n0_ := Aside0.mk (Kd.R_below (by (with_reducible repeat (first | apply Kd.R_alloc | apply Kd.R_drewN | apply Kd.R_drew)); exact HO371.out) hb)
      have n1_ := Aside0.mk (blk_below (g := gb362) (o := .cells #[.int .i64 a0_0, .slice A0_1 l0_1.length c0_1] 40 (0, 0)) (bk_ BK362.out) hb)
      have n2_ := Aside0.mk (blk_below (g := gb363) (o := .cells #[.int .i64 a1_0, .slice A1_1 l1_1.length c1_1] 40 (0, 0)) (bk_ BK363.out) hb)
      have n3_ := Aside0.mk (below_step HB_ hb)
      clear HO371
      clear BK362
      clear BK363
      clear HB
      have HO371 := n0_
      have BK362 := n1_
      have BK363 := n2_
      have HB := n3_
      clear n0_ n1_ n2_ n3_
      (try clear hb)
      (try clear hb2)
      (try clear hk)
      (try clear hi)
      refine hK.out _ _ ⟨(blk_cell BK362.out 0).trans rfl, (blk_cell BK362.out 1).trans rfl, (blk_cell BK363.out 0).trans rfl, (blk_cell BK363.out 1).trans rfl⟩ (fun hHeld => ?_)
      clear hK K
      refine norm_ (a' := ?_) ?_ ?_
      rotate_left
      · show Act.put _ (some 75) _ = _
        simp only [Act.put, List.setIfInBounds_toArray, List.set_cons_zero, List.set_cons_succ, i64_w, i32_w]
        rfl
      refine pure_ (i := 31) (N := some 77) (v := ?_) (a' := ?_) #[true, true, true, true, true, true, true, true, true, true, true, true, true, true, true, true, true, true, true, true, true, true, true, true, true, true, true, true, true, true, true, true, false, false, false, false, false, false, false, false, false, false, false, false, false, false, false, false, false, false, false] rfl rfl (any_of HT_.out (by kernel_rfl)) (fun _ _ _ h => h) (Or.inl ⟨by rfl, ?_⟩) ?_ ?_
      rotate_left
      · intro w'
        go_simp
        with_reducible rfl
      rotate_left
      · exact AP_
      refine pure_ (i := 32) (N := some 78) (v := undef) (a' := ?_) #[true, true, true, true, true, true, true, true, true, true, true, true, true, true, true, true, true, true, true, true, true, true, true, true, true, true, true, true, true, true, true, true, true, false, false, false, false, false, false, false, false, false, false, false, false, false, false, false, false, false, false] rfl rfl (any_of HT_.out (by kernel_rfl)) (fun _ _ _ h => h) (Or.inr ⟨by rfl, rfl⟩) ?_ ?_
      rotate_left
      · exact AP_
      refine pure_ (i := 33) (N := some 79) (v := undef) (a' := ?_) #[true, true, true, true, true, true, true, true, true, true, true, true, true, true, true, true, true, true, true, true, true, true, true, true, true, true, true, true, true, true, true, true, true, true, false, false, false, false, false, false, false, false, false, false, false, false, false, false, false, false, false] rfl rfl (any_of HT_.out (by kernel_rfl)) (fun _ _ _ h => h) (Or.inr ⟨by rfl, rfl⟩) ?_ ?_
      rotate_left
      · exact AP_
      refine pure_ (i := 34) (N := some 80) (v := undef) (a' := ?_) #[true, true, true, true, true, true, true, true, true, true, true, true, true, true, true, true, true, true, true, true, true, true, true, true, true, true, true, true, true, true, true, true, true, true, true, false, false, false, false, false, false, false, false, false, false, false, false, false, false, false, false] rfl rfl (any_of HT_.out (by kernel_rfl)) (fun _ _ _ h => h) (Or.inr ⟨by rfl, rfl⟩) ?_ ?_
      rotate_left
      · exact AP_
      refine pure_ (i := 35) (N := some 81) (v := undef) (a' := ?_) #[true, true, true, true, true, true, true, true, true, true, true, true, true, true, true, true, true, true, true, true, true, true, true, true, true, true, true, true, true, true, true, true, true, true, true, true, false, false, false, false, false, false, false, false, false, false, false, false, false, false, false] rfl rfl (any_of HT_.out (by kernel_rfl)) (fun _ _ _ h => h) (Or.inr ⟨by rfl, rfl⟩) ?_ ?_
      rotate_left
      · exact AP_
      refine pure_ (i := 36) (N := some 82) (v := ?_) (a' := ?_) #[true, true, true, true, true, true, true, true, true, true, true, true, true, true, true, true, true, true, true, true, true, true, true, true, true, true, true, true, true, true, true, true, true, true, true, true, true, false, false, false, false, false, false, false, false, false, false, false, false, false, false] rfl rfl (any_of HT_.out (by kernel_rfl)) (fun _ _ _ h => h) (Or.inl ⟨by rfl, ?_⟩) ?_ ?_
      rotate_left
      · intro w'
        go_simp
        with_reducible rfl
      rotate_left
      · exact AP_
      refine pure_ (i := 37) (N := some 83) (v := ?_) (a' := ?_) #[true, true, true, true, true, true, true, true, true, true, true, true, true, true, true, true, true, true, true, true, true, true, true, true, true, true, true, true, true, true, true, true, true, true, true, true, true, true, false, false, false, false, false, false, false, false, false, false, false, false, false] rfl rfl (any_of HT_.out (by kernel_rfl)) (fun _ _ _ h => h) (Or.inl ⟨by rfl, ?_⟩) ?_ ?_
      rotate_left
      · intro w'
        go_simp
        with_reducible rfl
      rotate_left
      · exact AP_
      refine pure_ (i := 38) (N := some 84) (v := ?_) (a' := ?_) #[true, true, true, true, true, true, true, true, true, true, true, true, true, true, true, true, true, true, true, true, true, true, true, true, true, true, true, true, true, true, true, true, true, true, true, true, true, true, true, false, false, false, false, false, false, false, false, false, false, false, false] rfl rfl (any_of HT_.out (by kernel_rfl)) (fun _ _ _ h => h) (Or.inl ⟨by rfl, ?_⟩) ?_ ?_
      rotate_left
      · intro w'
        go_simp
        with_reducible rfl
      rotate_left
      · exact AP_
      refine pure_ (i := 39) (N := some 85) (v := ?_) (a' := ?_) #[true, true, true, true, true, true, true, true, true, true, true, true, true, true, true, true, true, true, true, true, true, true, true, true, true, true, true, true, true, true, true, true, true, true, true, true, true, true, true, true, false, false, false, false, false, false, false, false, false, false, false] rfl rfl (any_of HT_.out (by kernel_rfl)) (fun _ _ _ h => h) (Or.inl ⟨by rfl, ?_⟩) ?_ ?_
      rotate_left
      · intro w'
        go_simp
        with_reducible rfl
      rotate_left
      · exact AP_
      refine pure_ (i := 41) (N := some 87) (v := ?_) (a' := ?_) #[true, true, true, true, true, true, true, true, true, true, true, true, true, true, true, true, true, true, true, true, true, true, true, true, true, true, true, true, true, true, true, true, true, true, true, true, true, true, true, true, false, true, false, false, false, false, false, false, false, false, false] rfl rfl (any_of HT_.out (by kernel_rfl)) (fun _ _ _ h => h) (Or.inl ⟨by rfl, ?_⟩) ?_ ?_
      rotate_left
      · intro w'
        go_simp
        with_reducible rfl
      rotate_left
      · exact AP_
      refine pure_ (i := 43) (N := some 89) (v := ?_) (a' := ?_) #[true, true, true, true, true, true, true, true, true, true, true, true, true, true, true, true, true, true, true, true, true, true, true, true, true, true, true, true, true, true, true, true, true, true, true, true, true, true, true, true, false, true, false, true, false, false, false, false, false, false, false] rfl rfl (any_of HT_.out (by kernel_rfl)) (fun _ _ _ h => h) (Or.inl ⟨by rfl, ?_⟩) ?_ ?_
      rotate_left
      · intro w'
        go_simp
        with_reducible rfl
      rotate_left
      · exact AP_
      refine take_ (i := 40) (N := some 86) (v := ?_) (a' := ?_) #[true, true, true, true, true, true, true, true, true, true, true, true, true, true, true, true, true, true, true, true, true, true, true, true, true, true, true, true, true, true, true, true, true, true, true, true, true, true, true, true, true, true, false, true, false, false, false, false, false, false, false] rfl rfl (take_ofW HT_.out HW_.out (by kernel_rfl)) (fun _ _ _ h => h) (Or.inl ⟨by rfl, ?_⟩) hHeld ?_ ?_
      rotate_left
      · rintro w' ⟨s0, s1, s2, s3⟩
        go_simp
        with_reducible rfl
      rotate_left
      · exact AP_
      refine one_ (i := 42) (N := some 88) #[true, true, true, true, true, true, true, true, true, true, true, true, true, true, true, true, true, true, true, true, true, true, true, true, true, true, true, true, true, true, true, true, true, true, true, true, true, true, true, true, true, true, true, true, false, false, false, false, false, false, false] rfl rfl (one_of HT_.out (by kernel_rfl)) (by decide) (fun K hK => ?_)
      refine goes_ Try.func35 (by kernel_rfl) rfl #[.agg #[.int .i64 a0_0, .slice A0_1 l0_1.length c0_1], .slice A2 l2.length c2] (by rfl) rfl rfl MP_ ?_
      with_reducible refine (dbm_Has.calls kj5 a0_0 _ _ l0_1 _ _ l2 t380 _ ?side1 ?side2 ?side3 ?side4 A39.out).mono ?_
      (case side1 => repeat (first | exact (Kd.C_below HR0_1.out HB.out) | (with_reducible refine Kd.C_alloc ?_ _) | (with_reducible refine Kd.C_drewN ?_ _) | (with_reducible refine Kd.C_drew ?_)))
      (case side2 => exact HC0_1.out)
      (case side3 => repeat (first | exact (Kd.C_below HR2.out HB.out) | (with_reducible refine Kd.C_alloc ?_ _) | (with_reducible refine Kd.C_drewN ?_ _) | (with_reducible refine Kd.C_drew ?_)))
      (case side4 => exact HC2.out)
      rintro e w56 ⟨rfl, hb⟩
      refine ⟨_, rfl, ?_⟩
      have n0_ := Aside0.mk (Kd.R_below (by (with_reducible repeat (first | apply Kd.R_alloc | apply Kd.R_drewN | apply Kd.R_drew)); exact HO371.out) hb)
      have n1_ := Aside0.mk (blk_below (g := gb362) (o := .cells #[.int .i64 a0_0, .slice A0_1 l0_1.length c0_1] 40 (0, 0)) (bk_ BK362.out) hb)
      have n2_ := Aside0.mk (blk_below (g := gb363) (o := .cells #[.int .i64 a1_0, .slice A1_1 l1_1.length c1_1] 40 (0, 0)) (bk_ BK363.out) hb)
      have n3_ := Aside0.mk (below_step HB_ hb)
      clear HO371
      clear BK362
      clear BK363
      clear HB
      have HO371 := n0_
      have BK362 := n1_
      have BK363 := n2_
      have HB := n3_
      clear n0_ n1_ n2_ n3_
      (try clear hb)
      (try clear hb2)
      (try clear hk)
      (try clear hi)
      refine hK.out _ _ ⟨(blk_cell BK362.out 0).trans rfl, (blk_cell BK362.out 1).trans rfl, (blk_cell BK363.out 0).trans rfl, (blk_cell BK363.out 1).trans rfl⟩ (fun hHeld => ?_)
      clear hK K
      refine norm_ (a' := ?_) ?_ ?_
      rotate_left
      · show Act.put _ (some 88) _ = _
        simp only [Act.put, List.setIfInBounds_toArray, List.set_cons_zero, List.set_cons_succ, i64_w, i32_w]
        rfl
      refine pure_ (i := 44) (N := some 90) (v := ?_) (a' := ?_) #[true, true, true, true, true, true, true, true, true, true, true, true, true, true, true, true, true, true, true, true, true, true, true, true, true, true, true, true, true, true, true, true, true, true, true, true, true, true, true, true, true, true, true, true, true, false, false, false, false, false, false] rfl rfl (any_of HT_.out (by kernel_rfl)) (fun _ _ _ h => h) (Or.inl ⟨by rfl, ?_⟩) ?_ ?_
      rotate_left
      · intro w'
        go_simp
        with_reducible rfl
      rotate_left
      · exact AP_
      refine pure_ (i := 45) (N := some 91) (v := undef) (a' := ?_) #[true, true, true, true, true, true, true, true, true, true, true, true, true, true, true, true, true, true, true, true, true, true, true, true, true, true, true, true, true, true, true, true, true, true, true, true, true, true, true, true, true, true, true, true, true, true, false, false, false, false, false] rfl rfl (any_of HT_.out (by kernel_rfl)) (fun _ _ _ h => h) (Or.inr ⟨by rfl, rfl⟩) ?_ ?_
      rotate_left
      · exact AP_
      refine pure_ (i := 46) (N := some 92) (v := undef) (a' := ?_) #[true, true, true, true, true, true, true, true, true, true, true, true, true, true, true, true, true, true, true, true, true, true, true, true, true, true, true, true, true, true, true, true, true, true, true, true, true, true, true, true, true, true, true, true, true, true, true, false, false, false, false] rfl rfl (any_of HT_.out (by kernel_rfl)) (fun _ _ _ h => h) (Or.inr ⟨by rfl, rfl⟩) ?_ ?_
      rotate_left
      · exact AP_
      refine pure_ (i := 47) (N := some 93) (v := undef) (a' := ?_) #[true, true, true, true, true, true, true, true, true, true, true, true, true, true, true, true, true, true, true, true, true, true, true, true, true, true, true, true, true, true, true, true, true, true, true, true, true, true, true, true, true, true, true, true, true, true, true, true, false, false, false] rfl rfl (any_of HT_.out (by kernel_rfl)) (fun _ _ _ h => h) (Or.inr ⟨by rfl, rfl⟩) ?_ ?_
      rotate_left
      · exact AP_
      refine pure_ (i := 48) (N := some 94) (v := ?_) (a' := ?_) #[true, true, true, true, true, true, true, true, true, true, true, true, true, true, true, true, true, true, true, true, true, true, true, true, true, true, true, true, true, true, true, true, true, true, true, true, true, true, true, true, true, true, true, true, true, true, true, true, true, false, false] rfl rfl (any_of HT_.out (by kernel_rfl)) (fun _ _ _ h => h) (Or.inl ⟨by rfl, ?_⟩) ?_ ?_
      rotate_left
      · intro w'
        go_simp
        with_reducible rfl
      rotate_left
      · exact AP_
      refine pure_ (i := 49) (N := some 95) (v := ?_) (a' := ?_) #[true, true, true, true, true, true, true, true, true, true, true, true, true, true, true, true, true, true, true, true, true, true, true, true, true, true, true, true, true, true, true, true, true, true, true, true, true, true, true, true, true, true, true, true, true, true, true, true, true, true, false] rfl rfl (any_of HT_.out (by kernel_rfl)) (fun _ _ _ h => h) (Or.inl ⟨by rfl, ?_⟩) ?_ ?_
      rotate_left
      · intro w'
        go_simp
        with_reducible rfl
      rotate_left
      · exact AP_
      refine pure_ (i := 50) (N := some 96) (v := ?_) (a' := ?_) #[true, true, true, true, true, true, true, true, true, true, true, true, true, true, true, true, true, true, true, true, true, true, true, true, true, true, true, true, true, true, true, true, true, true, true, true, true, true, true, true, true, true, true, true, true, true, true, true, true, true, true] rfl rfl (any_of HT_.out (by kernel_rfl)) (fun _ _ _ h => h) (Or.inl ⟨by rfl, ?_⟩) ?_ ?_
      rotate_left
      · intro w'
        go_simp
        with_reducible rfl
      rotate_left
      · exact AP_
      refine done_ (done_of HT_.out (by kernel_rfl)) ?_
      go_upto_region 9 with (fail)
      go_cut [148] (fun v148 wc => ∃ (kq : Nat) (x148_40 : Bool), v148 = .bool x148_40 ∧ Aside0 (warrantorlaw08_DbmChecks_v0.j1 kq a3 a4 t367 t368 t369 x148_40 a0_0 l0_1 = some r) ∧ Aside0 (kq ≤ kj5) ∧ Aside0 (Kd.R (Kd.int .i64) 3 wc w.heap.size (fun _ => True) v370 t369) ∧ Aside0 (wc.heap[gb362]? = some (.cells #[.int .i64 a0_0, (.slice A0_1 l0_1.length c0_1)] 40 (0, 0))) ∧ Aside0 (wc.heap[gb363]? = some (.cells #[.int .i64 a1_0, (.slice A1_1 l1_1.length c1_1)] 40 (0, 0))) ∧ Aside0 (Below w.heap.size w wc))
      case first =>
        have H := HC41.out
        clear HC41
        by_cases c57 : (t372 != false) = true
        · rw [if_pos c57] at H
          exact absurd H (by simp)
        rw [if_neg c57] at H
        have c57b0 : (t372 != false) = false := by simpa using c57
        (try (have c57b1 : decide (t372 = false) = true := by simpa using c57))
        (try (have c57b2 : (t372 == false) = true := by simpa using c57))
        clear c57
        (first | rw [c57b0] | (simp only [i64_w, i32_w]; rw [c57b0]) | skip)
        by_cases c58 : (t368 != false) = true
        · rw [if_pos c58] at H
          exact absurd H (by simp)
        rw [if_neg c58] at H
        have c58b0 : (t368 != false) = false := by simpa using c58
        (try (have c58b1 : decide (t368 = false) = true := by simpa using c58))
        (try (have c58b2 : (t368 == false) = true := by simpa using c58))
        clear c58
        by_cases c59 : t368 = true
        · subst c59
          have H1 : (if t372 = true then (warrantorlaw08_DbmChecks_v0.j1 kj5 a3 a4 t367 true t369 false a0_0 l0_1) else (warrantorlaw08_DbmChecks_v0.j1 kj5 a3 a4 t367 true t369 ((t369.length : Int) != 0) a0_0 l0_1)) = some r := by rw [if_pos rfl] at H; exact H
          clear H
          have H := H1
          clear H1
          by_cases c60 : t372 = true
          · subst c60
            have H1 : (warrantorlaw08_DbmChecks_v0.j1 kj5 a3 a4 t367 true t369 false a0_0 l0_1) = some r := by rw [if_pos rfl] at H; exact H
            clear H
            have H := H1
            clear H1
            have H' := Aside0.mk H
            clear H
            go_wp2
            go_meet
            case rel => exact ⟨_, (false), (by first | rfl | (simp; done) | (simp [*]; done)), H', ⟨by have := HJ5.out; first | omega | exact Nat.le_refl _⟩, ⟨by (with_reducible repeat (first | apply Kd.R_alloc | apply Kd.R_drewN | apply Kd.R_drew)); exact HO371.out⟩, ⟨by (with_reducible repeat (first | refine blk_drewN ?_ _ | refine blk_drew ?_ | refine blk_alloc ?_ _)); exact BK362.out⟩, ⟨by (with_reducible repeat (first | refine blk_drewN ?_ _ | refine blk_drew ?_ | refine blk_alloc ?_ _)); exact BK363.out⟩, ⟨HB_⟩⟩
          replace c60 := Bool.eq_false_iff.mpr c60
          subst c60
          have H1 : (warrantorlaw08_DbmChecks_v0.j1 kj5 a3 a4 t367 true t369 ((t369.length : Int) != 0) a0_0 l0_1) = some r := by rw [if_neg (show ¬ (false = true) by decide)] at H; exact H
          clear H
          have H := H1
          clear H1
          have H' := Aside0.mk H
          clear H
          obtain ⟨Ao61, co61, eo61⟩ := Kd.R_slice HO371.out
          subst eo61
          go_wp2
          go_meet
          case rel => exact ⟨_, (((t369.length : Int) != 0)), (by first | rfl | (simp; done) | (simp [*]; done)), H', ⟨by have := HJ5.out; first | omega | exact Nat.le_refl _⟩, ⟨by (with_reducible repeat (first | apply Kd.R_alloc | apply Kd.R_drewN | apply Kd.R_drew)); exact HO371.out⟩, ⟨by (with_reducible repeat (first | refine blk_drewN ?_ _ | refine blk_drew ?_ | refine blk_alloc ?_ _)); exact BK362.out⟩, ⟨by (with_reducible repeat (first | refine blk_drewN ?_ _ | refine blk_drew ?_ | refine blk_alloc ?_ _)); exact BK363.out⟩, ⟨HB_⟩⟩
        replace c59 := Bool.eq_false_iff.mpr c59
        subst c59
        have H1 : (if t367 = 0 then (if t372 = true then (warrantorlaw08_DbmChecks_v0.j1 kj5 a3 a4 t367 false t369 false a0_0 l0_1) else (warrantorlaw08_DbmChecks_v0.j1 kj5 a3 a4 t367 false t369 ((t369.length : Int) != 0) a0_0 l0_1)) else (none)) = some r := by rw [if_neg (show ¬ (false = true) by decide)] at H; exact H
        clear H
        have H := H1
        clear H1
        by_cases c62 : t367 = 0
        rotate_left
        · rw [if_neg c62] at H
          exact absurd H (by simp)
        rw [if_pos c62] at H
        have c62b0 : (t367 == 0) = true := beq_iff_eq.mpr c62
        have c62b1 : (t367 != 0) = false := bne_eq_false_iff_eq.mpr c62
        clear c62
        by_cases c63 : t372 = true
        · subst c63
          have H1 : (warrantorlaw08_DbmChecks_v0.j1 kj5 a3 a4 t367 false t369 false a0_0 l0_1) = some r := by rw [if_pos rfl] at H; exact H
          clear H
          have H := H1
          clear H1
          have H' := Aside0.mk H
          clear H
          go_wp2
          go_meet
          case rel => exact ⟨_, (false), (by first | rfl | (simp; done) | (simp [*]; done)), H', ⟨by have := HJ5.out; first | omega | exact Nat.le_refl _⟩, ⟨by (with_reducible repeat (first | apply Kd.R_alloc | apply Kd.R_drewN | apply Kd.R_drew)); exact HO371.out⟩, ⟨by (with_reducible repeat (first | refine blk_drewN ?_ _ | refine blk_drew ?_ | refine blk_alloc ?_ _)); exact BK362.out⟩, ⟨by (with_reducible repeat (first | refine blk_drewN ?_ _ | refine blk_drew ?_ | refine blk_alloc ?_ _)); exact BK363.out⟩, ⟨HB_⟩⟩
        replace c63 := Bool.eq_false_iff.mpr c63
        subst c63
        have H1 : (warrantorlaw08_DbmChecks_v0.j1 kj5 a3 a4 t367 false t369 ((t369.length : Int) != 0) a0_0 l0_1) = some r := by rw [if_neg (show ¬ (false = true) by decide)] at H; exact H
        clear H
        have H := H1
        clear H1
        have H' := Aside0.mk H
        clear H
        obtain ⟨Ao64, co64, eo64⟩ := Kd.R_slice HO371.out
        subst eo64
        go_wp2
        go_meet
        case rel => exact ⟨_, (((t369.length : Int) != 0)), (by first | rfl | (simp; done) | (simp [*]; done)), H', ⟨by have := HJ5.out; first | omega | exact Nat.le_refl _⟩, ⟨by (with_reducible repeat (first | apply Kd.R_alloc | apply Kd.R_drewN | apply Kd.R_drew)); exact HO371.out⟩, ⟨by (with_reducible repeat (first | refine blk_drewN ?_ _ | refine blk_drew ?_ | refine blk_alloc ?_ _)); exact BK362.out⟩, ⟨by (with_reducible repeat (first | refine blk_drewN ?_ _ | refine blk_drew ?_ | refine blk_alloc ?_ _)); exact BK363.out⟩, ⟨HB_⟩⟩
      case rest =>
        clear HC41
        try clear c1
        try clear c2
        try clear p2
        try clear c3
        try clear c5
        try clear c6
        try clear c26
        try clear c27
        try clear c30
        try clear c31
        try clear c35
        try clear c57
        try clear c57b0
        try clear c57b1
        try clear c57b2
        try clear c58
        try clear c58b0
        try clear c58b1
        try clear c58b2
        try clear c59
        try clear c60
        try clear c62
        try clear c62b0
        try clear c62b1
        try clear c63
        obtain ⟨kq, x148_40, rfl, HA, HJ40, HO_13, BK362, BK363, HB⟩ := hcut
        cases kq with
        | zero => exact absurd HA.out (by simp [warrantorlaw08_DbmChecks_v0.j1])
        | succ kj40 =>
          have H := HA.out
          clear HA
          simp only [warrantorlaw08_DbmChecks_v0.j1] at H
          by_cases c65 : x148_40 = true
          · subst c65
            have H1 : (none) = some r := by rw [if_pos rfl] at H; exact H
            clear H
            have H := H1
            clear H1
            exact absurd H (by simp)
          replace c65 := Bool.eq_false_iff.mpr c65
          subst c65
          have H1 : (if t368 = true then (if 0 ≤ (wrap64 ((wrap64 (a3 * (wrap64 (a0_0 + 1)))) + a4)) then (if (wrap64 ((wrap64 (a3 * (wrap64 (a0_0 + 1)))) + a4)) < (l0_1.length : Int) then (if t367 = (rd l0_1 (wrap64 ((wrap64 (a3 * (wrap64 (a0_0 + 1)))) + a4))) then (some ((t369.length : Int) == a0_0)) else (none)) else (none)) else (none)) else (some true)) = some r := by rw [if_neg (show ¬ (false = true) by decide)] at H; exact H
          clear H
          have H := H1
          clear H1
          by_cases c66 : t368 = true
          rotate_left
          · replace c66 := Bool.eq_false_iff.mpr c66
            subst c66
            have H1 : (some true) = some r := by rw [if_neg (show ¬ (false = true) by decide)] at H; exact H
            clear H
            have H := H1
            clear H1
            obtain rfl := Option.some.inj H
            go_wp2
            go_ret
            exact ⟨by first | rfl | (simp [errW_none, errW_some] <;> rfl) | (simp [*, errW_none, errW_some] <;> rfl), HB_⟩
          subst c66
          have H1 : (if 0 ≤ (wrap64 ((wrap64 (a3 * (wrap64 (a0_0 + 1)))) + a4)) then (if (wrap64 ((wrap64 (a3 * (wrap64 (a0_0 + 1)))) + a4)) < (l0_1.length : Int) then (if t367 = (rd l0_1 (wrap64 ((wrap64 (a3 * (wrap64 (a0_0 + 1)))) + a4))) then (some ((t369.length : Int) == a0_0)) else (none)) else (none)) else (none)) = some r := by rw [if_pos rfl] at H; exact H
          clear H
          have H := H1
          clear H1
          obtain ⟨ji67, hji67⟩ : ∃ j_ : Int, (wrap64 ((wrap64 (a3 * (wrap64 (a0_0 + 1)))) + a4)) = j_ := ⟨_, rfl⟩
          replace H : (if 0 ≤ (ji67) then (if (ji67) < (l0_1.length : Int) then (if t367 = (rd l0_1 (ji67)) then (some ((t369.length : Int) == a0_0)) else (none)) else (none)) else (none)) = some r := by first | (rw [hji67] at H; exact H) | (simp only [hji67] at H ⊢; exact H)
          have hji67w : (IntKind.i64.wrap ((wrap64 (a3 * (wrap64 (a0_0 + 1)))) + a4)) = ji67 := (i64_w _).trans hji67
          have hji67v : (IntKind.i64.wrap ((IntKind.i64.wrap (a3 * (IntKind.i64.wrap (a0_0 + 1)))) + a4)) = ji67 := by (try simp only [i64_w]); first | exact hji67 | exact hji67w
          by_cases c68 : 0 ≤ (ji67)
          rotate_left
          · rw [if_neg c68] at H
            exact absurd H (by simp)
          rw [if_pos c68] at H
          have c68b0 : decide (0 ≤ (ji67)) = true := decide_eq_true c68
          clear c68
          by_cases c69 : (ji67) < (l0_1.length : Int)
          rotate_left
          · rw [if_neg c69] at H
            exact absurd H (by simp)
          rw [if_pos c69] at H
          have c69b0 : decide ((ji67) < (l0_1.length : Int)) = true := decide_eq_true c69
          clear c69
          by_cases c70 : t367 = (rd l0_1 (ji67))
          rotate_left
          · rw [if_neg c70] at H
            exact absurd H (by simp)
          rw [if_pos c70] at H
          have c70b0 : (t367 == (rd l0_1 (ji67))) = true := beq_iff_eq.mpr c70
          have c70b1 : (t367 != (rd l0_1 (ji67))) = false := bne_eq_false_iff_eq.mpr c70
          clear c70
          obtain rfl := Option.some.inj H
          have hnb71 := NB362_363.out
          have hnc71 := NB363_362.out
          have hcz72_0 : wc.cell? ⟨gb362, 0, none⟩ = some (.int .i64 a0_0) := (blk_cell BK362.out 0).trans rfl
          have hcz72_1 : wc.cell? ⟨gb362, 1, none⟩ = some (.slice A0_1 l0_1.length c0_1) := (blk_cell BK362.out 1).trans rfl
          have hfz72_0 := blk_frozen BK362.out 0
          have hfz72_1 := blk_frozen BK362.out 1
          have p381 : 0 ≤ ((ji67) : Int) := of_decide_eq_true (by first | (with_reducible assumption) | assumption)
          have q381 : (ji67) < (l0_1.length : Int) := of_decide_eq_true (by first | (with_reducible assumption) | assumption)
          obtain ⟨ad381, e381, hx381_0⟩ := Kd.at_int HR0_1.out (ji67) p381 q381
          cases e381
          first | (replace hx381_0 := (HB.out.cell (World.block_lt_of_cell? w _ hx381_0)).trans hx381_0) | skip
          replace p381 := eq_true p381
          replace q381 := eq_true q381
          obtain ⟨Ao73, co73, eo73⟩ := Kd.R_slice HO_13.out
          subst eo73
          go_wp2
          go_ret
          exact ⟨by first | rfl | (simp [errW_none, errW_some] <;> rfl) | (simp only [← hji67]; first | rfl | (simp [errW_none, errW_some] <;> rfl)) | (simp [*, errW_none, errW_some] <;> rfl), HB_⟩
end Go.Proofs.Ytgbndakiiblhmaa.F
