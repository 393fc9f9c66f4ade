-- WRITTEN BY this session's program wip/ext.py, in print.py's manner
import Derived.Test.YtgeemdpflcefkaaZx0
import Derived.Test.YtgeemdpflcefkaaZx34
namespace Go.Proofs.Ytgeemdpflcefkaa.Z
open Go.RowKit Go.Proofs.YtgeemdpflcefkaaW.PrintWords Go.Proofs.YtgeemdpflcefkaaW.PrintLast Go.Proofs.YtgeemdpflcefkaaW.PrintMore
attribute [local go_sem] max2_int min2_int max_two min_two max_three min_three max_four min_four   -- for this text's walks alone
set_option linter.unusedVariables false
set_option linter.unusedSimpArgs false

/-! ### warrantorref09_Var: function 28 -/
def warrantorref09_Var.f (a0_0 : Int) (l0_1 : List Int) (a1 : Int) : Option (Bool) := if a1 ≥ 1 then (some (decide (a1 ≤ a0_0))) else (some false)
set_option maxHeartbeats 8000000 in
set_option maxRecDepth 100000 in
theorem warrantorref09_Var.calls (a0_0 : Int) (A0_1 : Option Addr) (c0_1 : Nat) (l0_1 : List Int) (a1 : Int) (r : Bool) (w : World) (hr0_1 : Kd.C (Kd.int .i64) w A0_1 l0_1.length l0_1) (hc0_1 : l0_1.length ≤ c0_1) (h : warrantorref09_Var.f a0_0 l0_1 a1 = some r) :
    Calls Try.prog 28 #[.agg #[.int .i64 a0_0, .slice A0_1 l0_1.length c0_1], .int .i64 a1] w fun e w' => e = .returned (.bool r) ∧ Below w.heap.size w w' := by
  have hu24 := Try.underlying24
  have HR0_1 := Aside0.mk hr0_1
  have HC0_1 := Aside0.mk hc0_1
  clear hr0_1 hc0_1
  have HB := Aside0.mk (Below.refl w.heap.size w)
  have H : (if a1 ≥ 1 then (some (decide (a1 ≤ a0_0))) else (some false)) = some r := h
  clear h
  by_cases c3 : a1 ≥ 1
  · rw [if_pos c3] at H
    have c3b0 : decide (1 ≤ a1) = true := decide_eq_true c3
    clear c3
    obtain rfl := Option.some.inj H
    go_enter Try.func28, Try.ntmps28
    go_wp2_with (first | ((with_reducible refine gate_dst (N := 2) rfl ?_); refine bx_ (N := 2) (cs := #[.int .i64 a0_0, .slice A0_1 l0_1.length c0_1]) (t := 24) ?_; intro gb492 hg w4 hbox hb; have n_ := a_ (bs_ HB hb) (a_ (Aside0.mk hbox) (a_ (gs_ HB hg) (gs_ HB hg))); clear HB; obtain ⟨HB, BK492, GW492, GE492⟩ := n_; clear hb hbox hg; obtain ⟨hcz5_0, hcz5_1, hfz5_0, hfz5_1⟩ := cz2_ BK492))
    go_ret
    exact ⟨by first | rfl | (simp [errW_none, errW_some] <;> rfl) | (simp [*, errW_none, errW_some] <;> rfl), HB_⟩
  rw [if_neg c3] at H
  have c3b0 : decide (1 ≤ a1) = false := decide_eq_false c3
  clear c3
  obtain rfl := Option.some.inj H
  go_enter Try.func28, Try.ntmps28
  go_wp2_with (first | ((with_reducible refine gate_dst (N := 2) rfl ?_); refine bx_ (N := 2) (cs := #[.int .i64 a0_0, .slice A0_1 l0_1.length c0_1]) (t := 24) ?_; intro gb492 hg w6 hbox hb; have n_ := a_ (bs_ HB hb) (a_ (Aside0.mk hbox) (a_ (gs_ HB hg) (gs_ HB hg))); clear HB; obtain ⟨HB, BK492, GW492, GE492⟩ := n_; clear hb hbox hg))
  go_ret
  exact ⟨by first | rfl | (simp [errW_none, errW_some] <;> rfl) | (simp [*, errW_none, errW_some] <;> rfl), HB_⟩

/-! ### warrantorref09_Or0: function 29 -/
def warrantorref09_Or0.f (a0_0 : Int) (l0_1 : List Int) (a1 : Int) : Option (Bool) := if a1 ≥ 0 then (some (decide (a1 ≤ a0_0))) else (some false)
set_option maxHeartbeats 8000000 in
set_option maxRecDepth 100000 in
theorem warrantorref09_Or0.calls (a0_0 : Int) (A0_1 : Option Addr) (c0_1 : Nat) (l0_1 : List Int) (a1 : Int) (r : Bool) (w : World) (hr0_1 : Kd.C (Kd.int .i64) w A0_1 l0_1.length l0_1) (hc0_1 : l0_1.length ≤ c0_1) (h : warrantorref09_Or0.f a0_0 l0_1 a1 = some r) :
    Calls Try.prog 29 #[.agg #[.int .i64 a0_0, .slice A0_1 l0_1.length c0_1], .int .i64 a1] w fun e w' => e = .returned (.bool r) ∧ Below w.heap.size w w' := by
  have hu24 := Try.underlying24
  have HR0_1 := Aside0.mk hr0_1
  have HC0_1 := Aside0.mk hc0_1
  clear hr0_1 hc0_1
  have HB := Aside0.mk (Below.refl w.heap.size w)
  have H : (if a1 ≥ 0 then (some (decide (a1 ≤ a0_0))) else (some false)) = some r := h
  clear h
  by_cases c3 : a1 ≥ 0
  · rw [if_pos c3] at H
    have c3b0 : decide (0 ≤ a1) = true := decide_eq_true c3
    clear c3
    obtain rfl := Option.some.inj H
    go_enter Try.func29, Try.ntmps29
    go_wp2_with (first | ((with_reducible refine gate_dst (N := 2) rfl ?_); refine bx_ (N := 2) (cs := #[.int .i64 a0_0, .slice A0_1 l0_1.length c0_1]) (t := 24) ?_; intro gb493 hg w4 hbox hb; have n_ := a_ (bs_ HB hb) (a_ (Aside0.mk hbox) (a_ (gs_ HB hg) (gs_ HB hg))); clear HB; obtain ⟨HB, BK493, GW493, GE493⟩ := n_; clear hb hbox hg; obtain ⟨hcz5_0, hcz5_1, hfz5_0, hfz5_1⟩ := cz2_ BK493))
    go_ret
    exact ⟨by first | rfl | (simp [errW_none, errW_some] <;> rfl) | (simp [*, errW_none, errW_some] <;> rfl), HB_⟩
  rw [if_neg c3] at H
  have c3b0 : decide (0 ≤ a1) = false := decide_eq_false c3
  clear c3
  obtain rfl := Option.some.inj H
  go_enter Try.func29, Try.ntmps29
  go_wp2_with (first | ((with_reducible refine gate_dst (N := 2) rfl ?_); refine bx_ (N := 2) (cs := #[.int .i64 a0_0, .slice A0_1 l0_1.length c0_1]) (t := 24) ?_; intro gb493 hg w6 hbox hb; have n_ := a_ (bs_ HB hb) (a_ (Aside0.mk hbox) (a_ (gs_ HB hg) (gs_ HB hg))); clear HB; obtain ⟨HB, BK493, GW493, GE493⟩ := n_; clear hb hbox hg))
  go_ret
  exact ⟨by first | rfl | (simp [errW_none, errW_some] <;> rfl) | (simp [*, errW_none, errW_some] <;> rfl), HB_⟩

/-! ### warrantorref07_None: function 54 -/
def warrantorref07_None.f  : Option (Int × Int) := some (1, 0)
set_option maxHeartbeats 8000000 in
set_option maxRecDepth 100000 in
theorem warrantorref07_None.calls  (r1 : Int) (r2 : Int) (w : World) (h : warrantorref07_None.f  = some (r1, r2)) :
    Calls Try.prog 54 #[] w fun e w' => e = .returned (.agg #[.int .i64 r1, .int .i64 r2]) ∧ Below w.heap.size w w' := by
  have hu39 := Try.underlying39
  have HB := Aside0.mk (Below.refl w.heap.size w)
  have H : (some (1, 0)) = some (r1, r2) := h
  clear h
  simp only [Option.some.injEq, Prod.mk.injEq] at H
  obtain ⟨rfl, rfl⟩ := H
  go_enter Try.func54, Try.ntmps54
  go_wp2_with (first | ((with_reducible refine gate_dst (N := 0) rfl ?_); refine bx_ (N := 0) (cs := #[.int .i64 0, .int .i64 0]) (t := 39) ?_; intro gb494 hg w1 hbox hb; have n_ := a_ (bs_ HB hb) (a_ (Aside0.mk hbox) (a_ (gs_ HB hg) (gs_ HB hg))); clear HB; obtain ⟨HB, BK494, GW494, GE494⟩ := n_; clear hb hbox hg; obtain ⟨hcz2_0, hcz2_1, hfz2_0, hfz2_1⟩ := cz2_ BK494))
  refine bodyPost_ret (results_cell_row rfl _ _ gb494 39 #[.int .i64 1, .int .i64 0] (0, 0) _ rfl (bk2_ BK494.out) Try.underlying39 rfl (by kernel_rfl)) rfl ?_
  exact ⟨by first | rfl | (simp [errW_none, errW_some] <;> rfl) | (simp [*, errW_none, errW_some] <;> rfl), HB_⟩

/-! ### warrantorref09_Itv: function 30 -/
def warrantorref09_Itv.f (a0_0 : Int) (l0_1 : List Int) (a1 : Int) : Option (Int × Int) := if (l0_1.length : Int) = 0 then ((warrantorref07_None.f).bind fun bt497 => (some (bt497.1, bt497.2))) else (if 0 ≤ a1 then (if a1 < (l0_1.length : Int) then (if 0 ≤ (wrap64 (a1 * (wrap64 (a0_0 + 1)))) then (if (wrap64 (a1 * (wrap64 (a0_0 + 1)))) < (l0_1.length : Int) then (some (wrap64 (-(rd l0_1 a1)), rd l0_1 (wrap64 (a1 * (wrap64 (a0_0 + 1)))))) else (none)) else (none)) else (none)) else (none))
def warrantorref09_Itv.T3 : Bool × List (List Nat × List Nat) := (true, [([], []), ([0], [0]), ([], []), ([1, 2], [1, 2]), ([3], [3]), ([4], [4]), ([], []), ([6], [6]), ([], []), ([], []), ([9], [9]), ([10], [10]), ([8, 11], [8, 11]), ([7, 12], [7, 12]), ([13], [13]), ([5, 14], [5, 14]), ([15, 0, 1, 2, 3, 4, 5, 6, 7, 8, 9, 10, 11, 12, 13, 14, 15], [15])])
def warrantorref09_Itv.B3 : List Nat := [0, 1, 0, 7, 15, 31, 0, 64, 0, 0, 512, 1536, 3840, 8128, 16320, 32767, 65535]
theorem warrantorref09_Itv.tab3 : rtab .any (opsOf Try.f30 3) = warrantorref09_Itv.T3 := by kernel_rfl
theorem warrantorref09_Itv.bits3 : waitsOk warrantorref09_Itv.T3.2 warrantorref09_Itv.B3 = true := by kernel_rfl
set_option maxHeartbeats 8000000 in
set_option maxRecDepth 100000 in
theorem warrantorref09_Itv.calls (a0_0 : Int) (A0_1 : Option Addr) (c0_1 : Nat) (l0_1 : List Int) (a1 : Int) (r1 : Int) (r2 : Int) (w : World) (hr0_1 : Kd.C (Kd.int .i64) w A0_1 l0_1.length l0_1) (hc0_1 : l0_1.length ≤ c0_1) (h : warrantorref09_Itv.f a0_0 l0_1 a1 = some (r1, r2)) :
    Calls Try.prog 30 #[.agg #[.int .i64 a0_0, .slice A0_1 l0_1.length c0_1], .int .i64 a1] w fun e w' => e = .returned (.agg #[.int .i64 r1, .int .i64 r2]) ∧ Below w.heap.size w w' := by
  have hu24 := Try.underlying24
  have hu39 := Try.underlying39
  have HR0_1 := Aside0.mk hr0_1
  have HC0_1 := Aside0.mk hc0_1
  clear hr0_1 hc0_1
  have HB := Aside0.mk (Below.refl w.heap.size w)
  have H : (if (l0_1.length : Int) = 0 then ((warrantorref07_None.f).bind fun bt497 => (some (bt497.1, bt497.2))) else (if 0 ≤ a1 then (if a1 < (l0_1.length : Int) then (if 0 ≤ (wrap64 (a1 * (wrap64 (a0_0 + 1)))) then (if (wrap64 (a1 * (wrap64 (a0_0 + 1)))) < (l0_1.length : Int) then (some (wrap64 (-(rd l0_1 a1)), rd l0_1 (wrap64 (a1 * (wrap64 (a0_0 + 1)))))) else (none)) else (none)) else (none)) else (none))) = some (r1, r2) := h
  clear h
  by_cases c3 : (l0_1.length : Int) = 0
  · rw [if_pos c3] at H
    have c3b0 : ((l0_1.length : Int) == 0) = true := beq_iff_eq.mpr c3
    have c3b1 : ((l0_1.length : Int) != 0) = false := bne_eq_false_iff_eq.mpr c3
    clear c3
    replace H := Option.bind_eq_some_iff.mp H
    obtain ⟨⟨t497, t498⟩, A40, H⟩ := H
    replace H : (some (t497, t498)) = some (r1, r2) := H
    have A4 := Aside0.mk A40
    clear A40
    simp only [Option.some.injEq, Prod.mk.injEq] at H
    obtain ⟨rfl, rfl⟩ := H
    go_enter Try.func30, Try.ntmps30
    go_wp2_with (first | ((with_reducible refine gate_dst (N := 2) rfl ?_); refine bx_ (N := 2) (cs := #[.int .i64 a0_0, .slice A0_1 l0_1.length c0_1]) (t := 24) ?_; intro gb495 hg w5 hbox hb; have n_ := a_ (bs_ HB hb) (a_ (Aside0.mk hbox) (a_ (gs_ HB hg) (gs_ HB hg))); clear HB; obtain ⟨HB, BK495, GW495, GE495⟩ := n_; clear hb hbox hg) | ((with_reducible refine gate_dst (N := 4) rfl ?_); refine bx_ (N := 4) (cs := #[.int .i64 0, .int .i64 0]) (t := 39) ?_; intro gb496 hg w6 hbox hb; have n_ := a_ (bb_ BK495 hb) (a_ (bs_ HB hb) (a_ (Aside0.mk hbox) (a_ (gs_ HB hg) (a_ (gs_ HB hg) (a_ (nl_ BK495 hg) (ng_ BK495 hg)))))); clear BK495 HB; obtain ⟨BK495, HB, BK496, GW496, GE496, NB495_496, NB496_495⟩ := n_; clear hb hbox hg; have hnb7 := NB495_496.out; have hnc7 := NB496_495.out; obtain ⟨hcz8_0, hcz8_1, hfz8_0, hfz8_1⟩ := cz2_ BK495) | ((with_reducible refine gate_callee (f := 54) rfl ?_); refine goesL_ (some 9) rfl rfl Try.func54 (by kernel_rfl) rfl #[] rfl MP_ ?_; (with_reducible refine (warrantorref07_None.calls  t497 t498 _ A4.out).mono ?_); rintro e w9 ⟨rfl, hb⟩; refine ⟨_, rfl, ?_⟩; have n_ := a_ (bb_ BK495 hb) (a_ (bb_ BK496 hb) (bs_ HB hb)); clear BK495 BK496 HB; obtain ⟨BK495, BK496, HB⟩ := n_; (try clear hb); (try clear hb2); (try clear hk); (try clear hi); obtain ⟨hcz10_0, hcz10_1, hfz10_0, hfz10_1⟩ := cz2_ BK496))
    refine bodyPost_ret (results_cell_row rfl _ _ gb496 39 #[.int .i64 t497, .int .i64 t498] (0, 0) _ rfl (bk2_ BK496.out) Try.underlying39 rfl (by kernel_rfl)) rfl ?_
    exact ⟨by first | rfl | (simp [errW_none, errW_some] <;> rfl) | (simp [*, errW_none, errW_some] <;> rfl), HB_⟩
  rw [if_neg c3] at H
  have c3b0 : ((l0_1.length : Int) == 0) = false := beq_eq_false_iff_ne.mpr c3
  have c3b1 : ((l0_1.length : Int) != 0) = true := bne_iff_ne.mpr c3
  have c3b2 : ¬ (l0_1 = []) := fun h_ => c3 (by rw [h_]; rfl)
  replace H := yes_ H
  obtain ⟨c11, H⟩ := H
  have c11b0 : decide (0 ≤ a1) = true := decide_eq_true c11
  clear c11
  replace H := yes_ H
  obtain ⟨c12, H⟩ := H
  have c12b0 : decide (a1 < (l0_1.length : Int)) = true := decide_eq_true c12
  clear c12
  obtain ⟨ji13, hji13⟩ : ∃ j_ : Int, (wrap64 (a1 * (wrap64 (a0_0 + 1)))) = j_ := ⟨_, rfl⟩
  replace H : (if 0 ≤ (ji13) then (if (ji13) < (l0_1.length : Int) then (some (wrap64 (-(rd l0_1 a1)), rd l0_1 (ji13))) else (none)) else (none)) = some (r1, r2) := by first | (rw [hji13] at H; exact H) | (simp only [hji13] at H ⊢; exact H)
  have hji13w : (IntKind.i64.wrap (a1 * (wrap64 (a0_0 + 1)))) = ji13 := (i64_w _).trans hji13
  have hji13v : (IntKind.i64.wrap (a1 * (IntKind.i64.wrap (a0_0 + 1)))) = ji13 := by (try simp only [i64_w]); first | exact hji13 | exact hji13w
  replace H := yes_ H
  obtain ⟨c14, H⟩ := H
  have c14b0 : decide (0 ≤ (ji13)) = true := decide_eq_true c14
  clear c14
  replace H := yes_ H
  obtain ⟨c15, H⟩ := H
  have c15b0 : decide ((ji13) < (l0_1.length : Int)) = true := decide_eq_true c15
  clear c15
  simp only [Option.some.injEq, Prod.mk.injEq] at H
  obtain ⟨rfl, rfl⟩ := H
  go_enter Try.func30, Try.ntmps30
  try go_wp2_with (first | ((with_reducible refine gate_dst (N := 2) rfl ?_); refine bx_ (N := 2) (cs := #[.int .i64 a0_0, .slice A0_1 l0_1.length c0_1]) (t := 24) ?_; intro gb495 hg w16 hbox hb; have n_ := a_ (bs_ HB hb) (a_ (Aside0.mk hbox) (a_ (gs_ HB hg) (gs_ HB hg))); clear HB; obtain ⟨HB, BK495, GW495, GE495⟩ := n_; clear hb hbox hg) | ((with_reducible refine gate_dst (N := 4) rfl ?_); refine bx_ (N := 4) (cs := #[.int .i64 0, .int .i64 0]) (t := 39) ?_; intro gb496 hg w17 hbox hb; have n_ := a_ (bb_ BK495 hb) (a_ (bs_ HB hb) (a_ (Aside0.mk hbox) (a_ (gs_ HB hg) (a_ (gs_ HB hg) (a_ (nl_ BK495 hg) (ng_ BK495 hg)))))); clear BK495 HB; obtain ⟨BK495, HB, BK496, GW496, GE496, NB495_496, NB496_495⟩ := n_; clear hb hbox hg; have hnb18 := NB495_496.out; have hnc18 := NB496_495.out; obtain ⟨hcz19_0, hcz19_1, hfz19_0, hfz19_1⟩ := cz2_ BK495))
  first | (obtain ⟨w17, hq_⟩ : ∃ x, x = w17.drewN nd := ⟨_, rfl⟩; rw [← hq_]; have q0_ := Aside0.mk (blk_drewN BK495.out nd); rw [← hq_] at q0_; have q1_ := Aside0.mk (blk_drewN BK496.out nd); rw [← hq_] at q1_; have q2_ := Aside0.mk (pw_below_drewN HB.out nd); rw [← hq_] at q2_; clear BK495; clear BK496; clear HB; have BK495 := q0_; have BK496 := q1_; have HB := q2_; clear hq_ q0_ q1_ q2_) | skip
  have n_ := a_ (Aside0.mk (blk_drew BK495.out)) (a_ (Aside0.mk (blk_drew BK496.out)) (Aside0.mk (below_drew1 HB.out)))
  clear BK495 BK496 HB
  obtain ⟨BK495, BK496, HB⟩ := n_
  have p499 : 0 ≤ (a1 : Int) := of_decide_eq_true (by first | (with_reducible assumption) | assumption)
  have q499 : a1 < (l0_1.length : Int) := of_decide_eq_true (by first | (with_reducible assumption) | assumption)
  obtain ⟨ad499, e499, hx499_0⟩ := Kd.at_int HR0_1.out a1 p499 q499
  have hw499_0 := hx499_0
  cases e499
  first | (replace hx499_0 := (HB.out.cell (World.block_lt_of_cell? w _ hx499_0)).trans hx499_0) | skip
  replace p499 := eq_true p499
  replace q499 := eq_true q499
  have p500 : 0 ≤ ((ji13) : Int) := of_decide_eq_true (by first | (with_reducible assumption) | assumption)
  have q500 : (ji13) < (l0_1.length : Int) := of_decide_eq_true (by first | (with_reducible assumption) | assumption)
  obtain ⟨ad500, e500, hx500_0⟩ := Kd.at_int HR0_1.out (ji13) p500 q500
  have hw500_0 := hx500_0
  obtain rfl : ad499 = ad500 := (by injection e500)
  first | (replace hx500_0 := (HB.out.cell (World.block_lt_of_cell? w _ hx500_0)).trans hx500_0) | skip
  replace p500 := eq_true p500
  replace q500 := eq_true q500
  refine start_ (n := 17) (S := fun w' => w'.cell? ⟨gb495, 0, none⟩ = some (.int .i64 a0_0) ∧ w'.cell? ⟨gb495, 1, none⟩ = some (.slice (some ad499) l0_1.length c0_1) ∧ w'.cell? (ad499.add (a1).toNat) = some (.int .i64 (rd l0_1 a1)) ∧ w'.cell? (ad499.add ((ji13)).toNat) = some (.int .i64 (rd l0_1 (ji13)))) (ds := []) #[false, false, false, false, false, false, false, false, false, false, false, false, false, false, false, false, false] (by kernel_rfl) rfl rfl ⟨(blk_cell BK495.out 0).trans rfl, (blk_cell BK495.out 1).trans rfl, ((HB.out.cell (World.block_lt_of_cell? w _ hw499_0)).trans hw499_0), ((HB.out.cell (World.block_lt_of_cell? w _ hw500_0)).trans hw500_0)⟩ (fun hHeld => ?_); refine with_tabW warrantorref09_Itv.tab3 warrantorref09_Itv.bits3 (fun HT_ HW_ => ?_)
  generalize w17.drew = w20 at BK495 BK496 HB hx499_0 hx500_0 hHeld ⊢
  refine pu_ 0 (some 10) ?_
  refine pu_ 2 (some 12) ?_
  refine pu_ 6 (some 16) ?_
  refine pu_ 8 (some 18) ?_
  refine pu_ 9 (some 19) ?_
  refine take_ (i := 1) (N := some 11) (v := ?_) (a' := ?_) #[true, true, true, false, false, false, true, false, true, true, false, false, false, false, false, false, false] rfl rfl (take_ofW HT_.out HW_.out (by kernel_rfl)) (fun _ _ _ h => h) (Or.inl ⟨by rfl, ?_⟩) hHeld ?_ ?_
  rotate_left
  · rintro w' ⟨s0, s1, s2, s3⟩
    go_simp
    with_reducible rfl
  rotate_left
  · exact AP_
  refine pu_ 3 (some 13) ?_
  refine take_ (i := 4) (N := some 14) (v := ?_) (a' := ?_) #[true, true, true, true, true, false, true, false, true, true, false, false, false, false, false, false, false] rfl rfl (take_ofW HT_.out HW_.out (by kernel_rfl)) (fun _ _ _ h => h) (Or.inl ⟨by rfl, ?_⟩) hHeld ?_ ?_
  rotate_left
  · rintro w' ⟨s0, s1, s2, s3⟩
    go_simp
    with_reducible rfl
  rotate_left
  · exact AP_
  refine pu_ 5 (some 15) ?_
  refine take_ (i := 7) (N := some 17) (v := ?_) (a' := ?_) #[true, true, true, true, true, true, true, true, true, true, false, false, false, false, false, false, false] rfl rfl (take_ofW HT_.out HW_.out (by kernel_rfl)) (fun _ _ _ h => h) (Or.inl ⟨by rfl, ?_⟩) hHeld ?_ ?_
  rotate_left
  · rintro w' ⟨s0, s1, s2, s3⟩
    go_simp
    with_reducible rfl
  rotate_left
  · exact AP_
  refine take_ (i := 10) (N := some 20) (v := ?_) (a' := ?_) #[true, true, true, true, true, true, true, true, true, true, true, false, false, false, false, false, false] rfl rfl (take_ofW HT_.out HW_.out (by kernel_rfl)) (fun _ _ _ h => h) (Or.inl ⟨by rfl, ?_⟩) hHeld ?_ ?_
  rotate_left
  · rintro w' ⟨s0, s1, s2, s3⟩
    go_simp
    with_reducible rfl
  rotate_left
  · exact AP_
  refine pu_ 11 (some 21) ?_
  refine pu_ 12 (some 22) ?_
  refine pu_ 13 (some 23) ?_
  refine take_ (i := 14) (N := some 24) (v := ?_) (a' := ?_) #[true, true, true, true, true, true, true, true, true, true, true, true, true, true, true, false, false] rfl rfl (take_ofW HT_.out HW_.out (by kernel_rfl)) (fun _ _ _ h => h) (Or.inl ⟨by rfl, ?_⟩) hHeld ?_ ?_
  rotate_left
  · rintro w' ⟨s0, s1, s2, s3⟩
    go_simp
    with_reducible rfl
  rotate_left
  · exact AP_
  refine pu_ 15 (some 25) ?_
  refine on_ 16 (none) (fun K hK => ?_)
  have hs21 : w20.cell? ⟨gb496, 0, none⟩ = some (.int .i64 0) := (blk_cell BK496.out 0).trans rfl
  have hfs21 := blk_frozen BK496.out 0
  have hns21_0 := NB495_496.out
  have hms21_0 := NB496_495.out
  have hs22 : w20.cell? ⟨gb496, 1, none⟩ = some (.int .i64 0) := (blk_cell BK496.out 1).trans rfl
  have hfs22 := blk_frozen BK496.out 1
  have hns22_0 := NB495_496.out
  have hms22_0 := NB496_495.out
  refine skip_ (w1 := ?_) (by rfl) rfl ?_ ?_
  rotate_left
  · go_simp
    rfl
  refine hK.out _ _ ⟨((cell_far (p := ⟨gb496, _, none⟩) NB495_496.out _).trans (((cell_far (p := ⟨gb496, _, none⟩) NB495_496.out _).trans (hHeld.1)))), ((cell_far (p := ⟨gb496, _, none⟩) NB495_496.out _).trans (((cell_far (p := ⟨gb496, _, none⟩) NB495_496.out _).trans (hHeld.2.1)))), ((cell_far (p := ⟨gb496, _, none⟩) (by first | exact Nat.ne_of_lt (Nat.lt_of_lt_of_le (by have := World.block_lt_of_cell? _ _ hw499_0; first | rwa [add_block] at this | exact this) GW496.out) | (rw [add_block]; exact Nat.ne_of_lt (Nat.lt_of_lt_of_le (by have := World.block_lt_of_cell? _ _ hw499_0; first | rwa [add_block] at this | exact this) GW496.out)) | (show (Addr.add _ _).block ≠ _; rw [add_block]; exact Nat.ne_of_lt (Nat.lt_of_lt_of_le (by have := World.block_lt_of_cell? _ _ hw499_0; first | rwa [add_block] at this | exact this) GW496.out)) | (dsimp only; exact Nat.ne_of_lt (Nat.lt_of_lt_of_le (by have := World.block_lt_of_cell? _ _ hw499_0; first | rwa [add_block] at this | exact this) GW496.out))) _).trans (((cell_far (p := ⟨gb496, _, none⟩) (by first | exact Nat.ne_of_lt (Nat.lt_of_lt_of_le (by have := World.block_lt_of_cell? _ _ hw499_0; first | rwa [add_block] at this | exact this) GW496.out) | (rw [add_block]; exact Nat.ne_of_lt (Nat.lt_of_lt_of_le (by have := World.block_lt_of_cell? _ _ hw499_0; first | rwa [add_block] at this | exact this) GW496.out)) | (show (Addr.add _ _).block ≠ _; rw [add_block]; exact Nat.ne_of_lt (Nat.lt_of_lt_of_le (by have := World.block_lt_of_cell? _ _ hw499_0; first | rwa [add_block] at this | exact this) GW496.out)) | (dsimp only; exact Nat.ne_of_lt (Nat.lt_of_lt_of_le (by have := World.block_lt_of_cell? _ _ hw499_0; first | rwa [add_block] at this | exact this) GW496.out))) _).trans (hHeld.2.2.1)))), ((cell_far (p := ⟨gb496, _, none⟩) (by first | exact Nat.ne_of_lt (Nat.lt_of_lt_of_le (by have := World.block_lt_of_cell? _ _ hw500_0; first | rwa [add_block] at this | exact this) GW496.out) | (rw [add_block]; exact Nat.ne_of_lt (Nat.lt_of_lt_of_le (by have := World.block_lt_of_cell? _ _ hw500_0; first | rwa [add_block] at this | exact this) GW496.out)) | (show (Addr.add _ _).block ≠ _; rw [add_block]; exact Nat.ne_of_lt (Nat.lt_of_lt_of_le (by have := World.block_lt_of_cell? _ _ hw500_0; first | rwa [add_block] at this | exact this) GW496.out)) | (dsimp only; exact Nat.ne_of_lt (Nat.lt_of_lt_of_le (by have := World.block_lt_of_cell? _ _ hw500_0; first | rwa [add_block] at this | exact this) GW496.out))) _).trans (((cell_far (p := ⟨gb496, _, none⟩) (by first | exact Nat.ne_of_lt (Nat.lt_of_lt_of_le (by have := World.block_lt_of_cell? _ _ hw500_0; first | rwa [add_block] at this | exact this) GW496.out) | (rw [add_block]; exact Nat.ne_of_lt (Nat.lt_of_lt_of_le (by have := World.block_lt_of_cell? _ _ hw500_0; first | rwa [add_block] at this | exact this) GW496.out)) | (show (Addr.add _ _).block ≠ _; rw [add_block]; exact Nat.ne_of_lt (Nat.lt_of_lt_of_le (by have := World.block_lt_of_cell? _ _ hw500_0; first | rwa [add_block] at this | exact this) GW496.out)) | (dsimp only; exact Nat.ne_of_lt (Nat.lt_of_lt_of_le (by have := World.block_lt_of_cell? _ _ hw500_0; first | rwa [add_block] at this | exact this) GW496.out))) _).trans (hHeld.2.2.2))))⟩ (fun hHeld => ?_)
  clear hK K
  refine done_ (done_of HT_.out (by kernel_rfl)) ?_
  try go_wp2
  refine bodyPost_ret (results_cell_row rfl _ _ gb496 39 #[.int .i64 (wrap64 (-(rd l0_1 a1))), .int .i64 (rd l0_1 (ji13))] (0, 0) _ rfl (bk2_ BK496.out) Try.underlying39 rfl (by kernel_rfl)) rfl ?_
  exact ⟨by first | rfl | (simp [errW_none, errW_some] <;> rfl) | (simp only [← hji13]; first | rfl | (simp [errW_none, errW_some] <;> rfl)) | (simp [*, errW_none, errW_some] <;> rfl), HB_⟩
/-! ### warrantorref09_Forget: function 31 -/
def warrantorref09_Forget.l0 : Nat → Int → Int → List Int → Int → Int → List Int → Option (Int × List Int)
  | 0, _, _, _, _, _, _ => none
  | k + 1, x1, x5, x6, x7, x502000, x502001 => if x7 < (wrap64 (x5 * x5)) then (if x5 = 0 then (none) else (if (wrap64 (Int.tdiv x7 x5)) = x1 then (if x6.length < 17592186044416 then (warrantorref09_Forget.l0 k x1 x5 (x6 ++ [4398046511104]) (wrap64 (x7 + 1)) x502000 x502001) else (none)) else (if (Int.tmod x7 x5) = x1 then (if x6.length < 17592186044416 then (warrantorref09_Forget.l0 k x1 x5 (x6 ++ [4398046511104]) (wrap64 (x7 + 1)) x502000 x502001) else (none)) else (if 0 ≤ x7 then (if x7 < (x502001.length : Int) then (if x6.length < 17592186044416 then (warrantorref09_Forget.l0 k x1 x5 (x6 ++ [rd x502001 x7]) (wrap64 (x7 + 1)) x502000 x502001) else (none)) else (none)) else (none))))) else ((warrantorref08_Close.f k x502000 x6).bind fun bt513 => (some (bt513.1, bt513.2)))
def warrantorref09_Forget.f (k : Nat) (a0_0 : Int) (l0_1 : List Int) (a1 : Int) : Option (Int × List Int) := if (l0_1.length : Int) = 0 then (some (a0_0, l0_1)) else (warrantorref09_Forget.l0 k a1 (wrap64 (a0_0 + 1)) ([] : List Int) 0 a0_0 l0_1)
theorem warrantorref09_Forget.mono_l : ∀ k, (∀ y0 y1 y2 y3 y4 y5, LeO (warrantorref09_Forget.l0 k y0 y1 y2 y3 y4 y5) (warrantorref09_Forget.l0 (k + 1) y0 y1 y2 y3 y4 y5))
  | 0 => fun _ _ _ _ _ _ r h => by simp [warrantorref09_Forget.l0] at h
  | k + 1 => by
    have ih0 := warrantorref09_Forget.mono_l k
    · intro y0 y1 y2 y3 y4 y5
      unfold warrantorref09_Forget.l0
      repeat' first
      | (with_reducible exact ih0 _ _ _ _ _ _)
      | (with_reducible exact warrantorref08_Close.mono _ _ _)
      | (with_reducible exact LeO.refl _)
      | (with_reducible exact LeO.none _)
      | (with_reducible refine LeO.ite ?_ ?_)
      | (with_reducible refine LeO.bind ?_ (fun _ => ?_))
      | exact ih0 _ _ _ _ _ _
      | exact warrantorref08_Close.mono _ _ _
      | exact LeO.none _
      | refine LeO.ite ?_ ?_
      | refine LeO.bind ?_ (fun _ => ?_)
theorem warrantorref09_Forget.mono : ∀ a0 a1 a2 k, LeO (warrantorref09_Forget.f k a0 a1 a2) (warrantorref09_Forget.f (k + 1) a0 a1 a2) := by
  intro a0 a1 a2 k
  have ih0 := warrantorref09_Forget.mono_l k
  unfold warrantorref09_Forget.f
  repeat' first
      | (with_reducible exact ih0 _ _ _ _ _ _)
      | (with_reducible exact warrantorref08_Close.mono _ _ _)
      | (with_reducible exact LeO.refl _)
      | (with_reducible exact LeO.none _)
      | (with_reducible refine LeO.ite ?_ ?_)
      | (with_reducible refine LeO.bind ?_ (fun _ => ?_))
      | exact ih0 _ _ _ _ _ _
      | exact warrantorref08_Close.mono _ _ _
      | exact LeO.none _
      | refine LeO.ite ?_ ?_
      | refine LeO.bind ?_ (fun _ => ?_)
set_option maxHeartbeats 8000000 in
set_option maxRecDepth 100000 in
theorem warrantorref09_Forget.calls (k : Nat) (a0_0 : Int) (P0_1_ : Nat → Prop) (A0_1 : Option Addr) (c0_1 : Nat) (l0_1 : List Int) (a1 : Int) (r1 : Int) (r2 : List Int) (w : World) (hs0_1 : Kd.V (Kd.int .i64) 3 w w.heap.size (fun k_ => P0_1_ k_) (.slice A0_1 l0_1.length c0_1) l0_1) (h : warrantorref09_Forget.f k a0_0 l0_1 a1 = some (r1, r2)) :
    Calls Try.prog 31 #[.agg #[.int .i64 a0_0, .slice A0_1 l0_1.length c0_1], .int .i64 a1] w fun e w' => ∃ v1_ : Value, e = .returned (.agg #[.int .i64 r1, v1_]) ∧ Kd.V (Kd.int .i64) 3 w' w.heap.size (fun k_ => (P0_1_ k_ ∨ w.heap.size ≤ k_)) v1_ r2 ∧ Below w.heap.size w w' := by
  have hu24 := Try.underlying24
  have HO0_1 := Aside0.mk (show Kd.V (Kd.int .i64) 3 w w.heap.size (fun k_ => (P0_1_ k_ ∨ w.heap.size ≤ k_)) (.slice A0_1 l0_1.length c0_1) l0_1 from Kd.V_mono hs0_1 (fun k_ hk => .inl hk))
  have HB := Aside0.mk (Below.refl w.heap.size w)
  have H : (if (l0_1.length : Int) = 0 then (some (a0_0, l0_1)) else (warrantorref09_Forget.l0 k a1 (wrap64 (a0_0 + 1)) ([] : List Int) 0 a0_0 l0_1)) = some (r1, r2) := h
  clear h
  by_cases c3 : (l0_1.length : Int) = 0
  · rw [if_pos c3] at H
    have c3b0 : ((l0_1.length : Int) == 0) = true := beq_iff_eq.mpr c3
    have c3b1 : ((l0_1.length : Int) != 0) = false := bne_eq_false_iff_eq.mpr c3
    clear c3
    simp only [Option.some.injEq, Prod.mk.injEq] at H
    obtain ⟨rfl, rfl⟩ := H
    go_enter Try.func31, Try.ntmps31
    go_wp2_with (first | ((with_reducible refine gate_dst (N := 2) rfl ?_); refine bx_ (N := 2) (cs := #[.int .i64 a0_0, .slice A0_1 l0_1.length c0_1]) (t := 24) ?_; intro gb501 hg w4 hbox hb; have n_ := a_ (Aside0.mk (Kd.V_below (Kd.V_elderB (by (with_reducible repeat (first | apply Kd.V_alloc | apply Kd.V_drewN | apply Kd.V_drew)); exact HO0_1.out) gb501 (Nat.le_of_eq hg.symm)) hb)) (a_ (bs_ HB hb) (a_ (Aside0.mk hbox) (a_ (gs_ HB hg) (gs_ HB hg)))); clear HO0_1 HB; obtain ⟨HO0_1, HB, BK501, GW501, GE501⟩ := n_; clear hb hbox hg) | ((with_reducible refine gate_dst (N := 4) rfl ?_); refine bx_ (N := 4) (cs := #[.int .i64 0, .slice none 0 0]) (t := 24) ?_; intro gb502 hg w5 hbox hb; have n_ := a_ (Aside0.mk (Kd.V_below (Kd.V_elderB (by (with_reducible repeat (first | apply Kd.V_alloc | apply Kd.V_drewN | apply Kd.V_drew)); exact HO0_1.out) gb502 (Nat.le_of_eq hg.symm)) hb)) (a_ (bb_ BK501 hb) (a_ (bs_ HB hb) (a_ (Aside0.mk hbox) (a_ (gs_ HB hg) (a_ (gs_ HB hg) (a_ (nl_ BK501 hg) (ng_ BK501 hg))))))); clear HO0_1 BK501 HB; obtain ⟨HO0_1, BK501, HB, BK502, GW502, GE502, NB501_502, NB502_501⟩ := n_; clear hb hbox hg; have hnb6 := NB501_502.out; have hnc6 := NB502_501.out; obtain ⟨hcz7_0, hcz7_1, hfz7_0, hfz7_1⟩ := cz2_ BK501; obtain ⟨hcz8_0, hcz8_1, hfz8_0, hfz8_1⟩ := cz2_ BK502))
    refine bodyPost_ret (results_cell_row rfl _ _ gb502 24 #[.int .i64 a0_0, .slice A0_1 l0_1.length c0_1] (0, 0) _ rfl (bk2_ BK502.out) Try.underlying24 rfl (by kernel_rfl)) rfl ?_
    exact ⟨_, by first | rfl | (simp [errW_none, errW_some] <;> rfl) | (simp [*, errW_none, errW_some] <;> rfl), by (with_reducible repeat (first | apply Kd.V_alloc | apply Kd.V_drewN | apply Kd.V_drew)); exact Kd.V_mono (Kd.V_far (p := ⟨gb502, 1, none⟩) (Kd.V_far (p := ⟨gb502, 0, none⟩) (Kd.V_mono HO0_1.out (fun k_ hk => (⟨hk, hk.2⟩ : _ ∧ k_ ≠ gb502))) (fun _ hk => hk.2) (.int .i64 a0_0)) (fun _ hk => hk.2) (.slice A0_1 l0_1.length c0_1)) (fun _ hk => hk.1.1.1), HB_⟩
  rw [if_neg c3] at H
  have c3b0 : ((l0_1.length : Int) == 0) = false := beq_eq_false_iff_ne.mpr c3
  have c3b1 : ((l0_1.length : Int) != 0) = true := bne_iff_ne.mpr c3
  have c3b2 : ¬ (l0_1 = []) := fun h_ => c3 (by rw [h_]; rfl)
  have H' := Aside0.mk H
  clear H
  go_enter Try.func31, Try.ntmps31
  go_wp2_with (first | ((with_reducible refine gate_dst (N := 2) rfl ?_); refine bx_ (N := 2) (cs := #[.int .i64 a0_0, .slice A0_1 l0_1.length c0_1]) (t := 24) ?_; intro gb501 hg w9 hbox hb; have n_ := a_ (Aside0.mk (Kd.V_below (Kd.V_elderB (by (with_reducible repeat (first | apply Kd.V_alloc | apply Kd.V_drewN | apply Kd.V_drew)); exact HO0_1.out) gb501 (Nat.le_of_eq hg.symm)) hb)) (a_ (bs_ HB hb) (a_ (Aside0.mk hbox) (a_ (gs_ HB hg) (gs_ HB hg)))); clear HO0_1 HB; obtain ⟨HO0_1, HB, BK501, GW501, GE501⟩ := n_; clear hb hbox hg) | ((with_reducible refine gate_dst (N := 4) rfl ?_); refine bx_ (N := 4) (cs := #[.int .i64 0, .slice none 0 0]) (t := 24) ?_; intro gb502 hg w10 hbox hb; have n_ := a_ (Aside0.mk (Kd.V_below (Kd.V_elderB (by (with_reducible repeat (first | apply Kd.V_alloc | apply Kd.V_drewN | apply Kd.V_drew)); exact HO0_1.out) gb502 (Nat.le_of_eq hg.symm)) hb)) (a_ (bb_ BK501 hb) (a_ (bs_ HB hb) (a_ (Aside0.mk hbox) (a_ (gs_ HB hg) (a_ (gs_ HB hg) (a_ (nl_ BK501 hg) (ng_ BK501 hg))))))); clear HO0_1 BK501 HB; obtain ⟨HO0_1, BK501, HB, BK502, GW502, GE502, NB501_502, NB502_501⟩ := n_; clear hb hbox hg; have hnb11 := NB501_502.out; have hnc11 := NB502_501.out; obtain ⟨hcz12_0, hcz12_1, hfz12_0, hfz12_1⟩ := cz2_ BK501))
  go_loopg [6, 7] k (fun kq v6 v7 w' => ∃ (x6_1 : List Int) (x7_1 : Int), v7 = .int .i64 x7_1 ∧ Aside0 (warrantorref09_Forget.l0 kq a1 (wrap64 (a0_0 + 1)) x6_1 x7_1 a0_0 l0_1 = some (r1, r2)) ∧ Aside0 (kq ≤ k) ∧ Aside0 (Kd.R (Kd.int .i64) 3 w' w.heap.size (fun k_ => (w.heap.size ≤ k_)) v6 x6_1) ∧ Aside0 (Kd.V (Kd.int .i64) 3 w' w.heap.size (fun k_ => (P0_1_ k_ ∨ w.heap.size ≤ k_) ∧ some k_ ≠ (v6 : Value).ownBlock ∧ k_ ≠ gb501 ∧ k_ ≠ gb502) (.slice A0_1 l0_1.length c0_1) l0_1) ∧ Aside0 (w'.heap[gb501]? = some (.cells #[.int .i64 a0_0, (.slice A0_1 l0_1.length c0_1)] 24 (0, 0))) ∧ Aside0 (w'.heap[gb502]? = some (.cells #[.int .i64 0, (.slice none 0 0)] 24 (0, 0))) ∧ Aside0 (Below w.heap.size w w'))
  case atStart => exact ⟨(([] : List Int)), (0), (by first | rfl | (simp; done) | (simp [*]; done)), H', ⟨Nat.le_refl _⟩, ⟨by first | exact Kd.R_nil _ _ _ _ _ | exact Kd.N_nil _ _ _ _ _ | exact Kd.V_nil _ _ _ _ _ | exact Kd.Q_nil _ _ _ _ _ | exact Kd.S_nil _ _ _ _ _⟩, ⟨by (with_reducible repeat (first | apply Kd.V_alloc | apply Kd.V_drewN | apply Kd.V_drew)); exact Kd.V_mono HO0_1.out (fun _ hk => ⟨hk.1.1, ⟨(by simp [Value.ownBlock]), ⟨hk.1.2, hk.2⟩⟩⟩)⟩, ⟨by (with_reducible repeat (first | refine blk_drewN ?_ _ | refine blk_drew ?_ | refine blk_alloc ?_ _)); exact BK501.out⟩, ⟨by (with_reducible repeat (first | refine blk_drewN ?_ _ | refine blk_drew ?_ | refine blk_alloc ?_ _)); exact BK502.out⟩, ⟨HB_⟩⟩
  case round =>
    clear H'
    try clear c1
    try clear p2
    try clear c3
    try clear c3b0
    try clear c3b1
    try clear c3b2
    try clear c6
    try clear p6
    try clear c11
    try clear hcz12_0
    try clear hcz12_1
    try clear hcz7_0
    try clear hcz7_1
    try clear hcz8_0
    try clear hcz8_1
    try clear hfz12_0
    try clear hfz12_1
    try clear hfz7_0
    try clear hfz7_1
    try clear hfz8_0
    try clear hfz8_1
    obtain ⟨x6_1, x7_1, rfl, HA, HK1, HO_6, HO_502001, BK501, BK502, HB⟩ := hrel
    cases gk with
    | zero => exact absurd HA.out (by simp [warrantorref09_Forget.l0])
    | succ k1 =>
      have H := HA.out
      clear HA
      simp only [warrantorref09_Forget.l0] at H
      by_cases c13 : x7_1 < (wrap64 ((wrap64 (a0_0 + 1)) * (wrap64 (a0_0 + 1))))
      rotate_left
      · rw [if_neg c13] at H
        have c13b0 : decide (x7_1 < (wrap64 ((wrap64 (a0_0 + 1)) * (wrap64 (a0_0 + 1))))) = false := decide_eq_false c13
        have c13b0v : decide (x7_1 < (IntKind.i64.wrap ((IntKind.i64.wrap (a0_0 + 1)) * (IntKind.i64.wrap (a0_0 + 1))))) = false := by (try simp only [i64_w]); exact c13b0
        clear c13
        replace H := Option.bind_eq_some_iff.mp H
        obtain ⟨⟨t513, t514⟩, A270, H⟩ := H
        replace H : (some (t513, t514)) = some (r1, r2) := H
        have A27 := Aside0.mk A270
        clear A270
        simp only [Option.some.injEq, Prod.mk.injEq] at H
        obtain ⟨rfl, rfl⟩ := H
        have hnb28 := NB501_502.out
        have hnc28 := NB502_501.out
        obtain ⟨hcz29_0, hcz29_1, hfz29_0, hfz29_1⟩ := cz2_ BK501
        obtain ⟨Ao30, co30, eo30⟩ := Kd.R_slice HO_6.out
        subst eo30
        go_wp2_with (first | ((with_reducible refine gate_callee (f := 76) rfl ?_); refine goesL_ (some 49) rfl rfl Try.func76 (by kernel_rfl) rfl #[.int .i64 a0_0, .slice Ao30 x6_1.length co30] rfl MP_ ?_; (with_reducible refine (warrantorref08_Close.calls k1 a0_0 _ _ x6_1 t513 t514 _ ?side1 ?side2 A27.out).mono ?_); (case side1 => repeat (first | exact (Kd.R_reads' HO_6.out).2.2 | (with_reducible refine Kd.C_alloc ?_ _) | (with_reducible refine Kd.C_drewN ?_ _) | (with_reducible refine Kd.C_drew ?_))); (case side2 => exact (Kd.R_reads' HO_6.out).2.1); rintro e w31 ⟨v515, rfl, ho0, hb⟩; refine ⟨_, rfl, ?_⟩; have n_ := a_ (Aside0.mk (Kd.R_elder' (rd_ HO_6.out) (Kd.R_base ho0) hb)) (a_ (Aside0.mk (Kd.V_elder' (by (with_reducible repeat (first | apply Kd.V_alloc | apply Kd.V_drewN | apply Kd.V_drew)); exact HO_502001.out) (Kd.R_base ho0) hb)) (a_ (Aside0.mk (Kd.R_lower (Kd.R_new' (Kd.R_newM (M := fun k_ => (w.heap.size ≤ k_)) ho0 (below_size HB_) (fun k_ h_ => h_)) (Kd.R_lt (rd_ HO_6.out))) (below_size HB_))) (a_ (bb_ BK501 hb) (a_ (bb_ BK502 hb) (bs_ HB hb))))); clear HO_6 HO_502001 BK501 BK502 HB; obtain ⟨HO_6, HO_502001, HO516, BK501, BK502, HB⟩ := n_; (try clear hb); (try clear hb2); (try clear hk); (try clear hi); (try clear ho0); obtain ⟨hcz32_0, hcz32_1, hfz32_0, hfz32_1⟩ := cz2_ BK502; obtain ⟨Ao33, co33, eo33⟩ := Kd.R_slice HO516.out; subst eo33))
        refine bodyPost_ret (results_cell_row rfl _ _ gb502 24 #[.int .i64 t513, .slice Ao33 t514.length co33] (0, 0) _ rfl (bk2_ BK502.out) Try.underlying24 rfl (by kernel_rfl)) rfl ?_
        exact ⟨_, by first | rfl | (simp [errW_none, errW_some] <;> rfl) | (simp [*, errW_none, errW_some] <;> rfl), Kd.V_mono (Kd.R_V (rd_ (Kd.R_mono (Kd.R_far (p := ⟨gb502, 1, none⟩) (Kd.R_far (p := ⟨gb502, 0, none⟩) (Kd.R_types HO516.out BK502.out (by decide)) (fun _ hk => hk.2) (.int .i64 t513)) (fun _ hk => hk.2) (.slice Ao33 t514.length co33)) (fun _ hk => hk.1.1.1)))) (fun k_ hk => by first | exact ⟨(.inr (hk.1)), hk.2⟩ | exact (.inr (hk))), HB_⟩

      rw [if_pos c13] at H
      have c13b0 : decide (x7_1 < (wrap64 ((wrap64 (a0_0 + 1)) * (wrap64 (a0_0 + 1))))) = true := decide_eq_true c13
      have c13b0v : decide (x7_1 < (IntKind.i64.wrap ((IntKind.i64.wrap (a0_0 + 1)) * (IntKind.i64.wrap (a0_0 + 1))))) = true := by (try simp only [i64_w]); exact c13b0
      clear c13
      by_cases c14 : (wrap64 (a0_0 + 1)) = 0
      · rw [if_pos c14] at H
        exact absurd H (by simp)
      rw [if_neg c14] at H
      have c14b0 : ((wrap64 (a0_0 + 1)) == 0) = false := beq_eq_false_iff_ne.mpr c14
      have c14b0v : ((IntKind.i64.wrap (a0_0 + 1)) == 0) = false := by (try simp only [i64_w]); exact c14b0
      have c14b1 : ((wrap64 (a0_0 + 1)) != 0) = true := bne_iff_ne.mpr c14
      have c14b1v : ((IntKind.i64.wrap (a0_0 + 1)) != 0) = true := by (try simp only [i64_w]); exact c14b1
      by_cases c15 : (wrap64 (Int.tdiv x7_1 (wrap64 (a0_0 + 1)))) = a1
      · rw [if_pos c15] at H
        have c15b0 : ((wrap64 (Int.tdiv x7_1 (wrap64 (a0_0 + 1)))) == a1) = true := beq_iff_eq.mpr c15
        have c15b0v : ((IntKind.i64.wrap (Int.tdiv x7_1 (IntKind.i64.wrap (a0_0 + 1)))) == a1) = true := by (try simp only [i64_w]); exact c15b0
        have c15b1 : ((wrap64 (Int.tdiv x7_1 (wrap64 (a0_0 + 1)))) != a1) = false := bne_eq_false_iff_eq.mpr c15
        have c15b1v : ((IntKind.i64.wrap (Int.tdiv x7_1 (IntKind.i64.wrap (a0_0 + 1)))) != a1) = false := by (try simp only [i64_w]); exact c15b1
        clear c15
        replace H := yes_ H
        obtain ⟨c16, H⟩ := H
        have LMc16 := Aside0.mk c16
        clear c16
        obtain ⟨y503, hy503⟩ : ∃ y_ : List Int, y_ = (x6_1 ++ [4398046511104]) := ⟨_, rfl⟩
        replace H : (warrantorref09_Forget.l0 k1 a1 (wrap64 (a0_0 + 1)) y503 (wrap64 (x7_1 + 1)) a0_0 l0_1) = some (r1, r2) := by first | (rw [hy503]; with_reducible exact H) | (have H2_ := (Option.bind_some _ _).symm.trans H; rw [hy503]; with_reducible exact H2_) | (have H2_ := (Option.bind_some _ _).symm.trans H; with_reducible exact H2_) | with_reducible exact H | (rw [hy503]; exact H) | exact H
        have Ny503 := Aside0.mk hy503
        clear hy503
        have H' := Aside0.mk H
        clear H
        go_wp2_with (first | ((with_reducible refine gate_builtin (b := .append) (xs := #[.tmp 35, .tmp 36]) rfl ?_); at_builtin; refine Kd.R_append (Kd.int .i64) (w0 := w) w.heap.size rfl (.tmp 35) (.tmp 36) 22 3 (.int .i64 0) 8 rfl Try.underlying22 info3 rfl (by decide) (by omega) u6 x6_1 4398046511104 [.int .i64 4398046511104] (fun k_ => (w.heap.size ≤ k_)) (fun _ => False) rfl rfl ?aP (fun _ hk => hk.elim) ?aF ?aO ?aB ?aS ?aL ?_; (case aP => exact rfl); (case aB => exact HB_); (case aF => exact (fun k_ hk => (Nat.le_trans (below_size HB_) hk))); (case aO => exact (rd_ HO_6.out)); (case aS => exact (below_size HB_)); (case aL => have := LMc16.out; omega); intro v504 w17 ho hb hg hat; rw [← Ny503.out] at ho; have n_ := a_ (Aside0.mk (Kd.V_afterv (ok := (fun k_ => (P0_1_ k_ ∨ w.heap.size ≤ k_) ∧ k_ ≠ gb501 ∧ k_ ≠ gb502)) (by (with_reducible repeat (first | apply Kd.V_alloc | apply Kd.V_drewN | apply Kd.V_drew)); exact Kd.V_mono HO_502001.out (fun _ hk => ⟨⟨hk.1, ⟨hk.2.2.1, hk.2.2.2⟩⟩, hk.2.1⟩)) hg hat)) (a_ (Aside0.mk (blk_grown (g := gb501) (o := .cells #[.int .i64 a0_0, .slice A0_1 l0_1.length c0_1] 24 (0, 0)) (bk_ BK501.out) hg (Kd.R_ne HO_6.out BK501.out (by decide)))) (a_ (Aside0.mk (blk_grown (g := gb502) (o := .cells #[.int .i64 0, .slice none 0 0] 24 (0, 0)) (bk_ BK502.out) hg (Kd.R_ne HO_6.out BK502.out (by decide)))) (a_ (Aside0.mk hb) (Aside0.mk ho)))); clear HO_502001 BK501 BK502 HB HO_6; obtain ⟨HO_502001, BK501, BK502, HB, HO505⟩ := n_; clear ho hb hg hat))
        go_roundg k1
        case measure => have := HK1.out; omega
        case rel => exact ⟨(y503), (wrap64 (x7_1 + 1)), (by first | rfl | (simp; done) | (simp [*]; done)), H', ⟨by have := HK1.out; omega⟩, ⟨by (with_reducible repeat (first | apply Kd.R_alloc | apply Kd.R_drewN | apply Kd.R_drew)); exact HO505.out⟩, ⟨by (with_reducible repeat (first | apply Kd.V_alloc | apply Kd.V_drewN | apply Kd.V_drew)); exact Kd.V_mono HO_502001.out (fun _ hk => ⟨hk.1.1, ⟨hk.2, ⟨hk.1.2.1, hk.1.2.2⟩⟩⟩)⟩, ⟨by (with_reducible repeat (first | refine blk_drewN ?_ _ | refine blk_drew ?_ | refine blk_alloc ?_ _)); exact BK501.out⟩, ⟨by (with_reducible repeat (first | refine blk_drewN ?_ _ | refine blk_drew ?_ | refine blk_alloc ?_ _)); exact BK502.out⟩, ⟨HB_⟩⟩
      rw [if_neg c15] at H
      have c15b0 : ((wrap64 (Int.tdiv x7_1 (wrap64 (a0_0 + 1)))) == a1) = false := beq_eq_false_iff_ne.mpr c15
      have c15b0v : ((IntKind.i64.wrap (Int.tdiv x7_1 (IntKind.i64.wrap (a0_0 + 1)))) == a1) = false := by (try simp only [i64_w]); exact c15b0
      have c15b1 : ((wrap64 (Int.tdiv x7_1 (wrap64 (a0_0 + 1)))) != a1) = true := bne_iff_ne.mpr c15
      have c15b1v : ((IntKind.i64.wrap (Int.tdiv x7_1 (IntKind.i64.wrap (a0_0 + 1)))) != a1) = true := by (try simp only [i64_w]); exact c15b1
      by_cases c18 : (Int.tmod x7_1 (wrap64 (a0_0 + 1))) = a1
      · rw [if_pos c18] at H
        have c18b0 : ((Int.tmod x7_1 (wrap64 (a0_0 + 1))) == a1) = true := beq_iff_eq.mpr c18
        have c18b0v : ((Int.tmod x7_1 (IntKind.i64.wrap (a0_0 + 1))) == a1) = true := by (try simp only [i64_w]); exact c18b0
        have c18b1 : ((Int.tmod x7_1 (wrap64 (a0_0 + 1))) != a1) = false := bne_eq_false_iff_eq.mpr c18
        have c18b1v : ((Int.tmod x7_1 (IntKind.i64.wrap (a0_0 + 1))) != a1) = false := by (try simp only [i64_w]); exact c18b1
        clear c18
        replace H := yes_ H
        obtain ⟨c19, H⟩ := H
        have LMc19 := Aside0.mk c19
        clear c19
        obtain ⟨y506, hy506⟩ : ∃ y_ : List Int, y_ = (x6_1 ++ [4398046511104]) := ⟨_, rfl⟩
        replace H : (warrantorref09_Forget.l0 k1 a1 (wrap64 (a0_0 + 1)) y506 (wrap64 (x7_1 + 1)) a0_0 l0_1) = some (r1, r2) := by first | (rw [hy506]; with_reducible exact H) | (have H2_ := (Option.bind_some _ _).symm.trans H; rw [hy506]; with_reducible exact H2_) | (have H2_ := (Option.bind_some _ _).symm.trans H; with_reducible exact H2_) | with_reducible exact H | (rw [hy506]; exact H) | exact H
        have Ny506 := Aside0.mk hy506
        clear hy506
        have H' := Aside0.mk H
        clear H
        go_wp2_with (first | ((with_reducible refine gate_builtin (b := .append) (xs := #[.tmp 35, .tmp 36]) rfl ?_); at_builtin; refine Kd.R_append (Kd.int .i64) (w0 := w) w.heap.size rfl (.tmp 35) (.tmp 36) 22 3 (.int .i64 0) 8 rfl Try.underlying22 info3 rfl (by decide) (by omega) u6 x6_1 4398046511104 [.int .i64 4398046511104] (fun k_ => (w.heap.size ≤ k_)) (fun _ => False) rfl rfl ?aP (fun _ hk => hk.elim) ?aF ?aO ?aB ?aS ?aL ?_; (case aP => exact rfl); (case aB => exact HB_); (case aF => exact (fun k_ hk => (Nat.le_trans (below_size HB_) hk))); (case aO => exact (rd_ HO_6.out)); (case aS => exact (below_size HB_)); (case aL => have := LMc19.out; omega); intro v507 w20 ho hb hg hat; rw [← Ny506.out] at ho; have n_ := a_ (Aside0.mk (Kd.V_afterv (ok := (fun k_ => (P0_1_ k_ ∨ w.heap.size ≤ k_) ∧ k_ ≠ gb501 ∧ k_ ≠ gb502)) (by (with_reducible repeat (first | apply Kd.V_alloc | apply Kd.V_drewN | apply Kd.V_drew)); exact Kd.V_mono HO_502001.out (fun _ hk => ⟨⟨hk.1, ⟨hk.2.2.1, hk.2.2.2⟩⟩, hk.2.1⟩)) hg hat)) (a_ (Aside0.mk (blk_grown (g := gb501) (o := .cells #[.int .i64 a0_0, .slice A0_1 l0_1.length c0_1] 24 (0, 0)) (bk_ BK501.out) hg (Kd.R_ne HO_6.out BK501.out (by decide)))) (a_ (Aside0.mk (blk_grown (g := gb502) (o := .cells #[.int .i64 0, .slice none 0 0] 24 (0, 0)) (bk_ BK502.out) hg (Kd.R_ne HO_6.out BK502.out (by decide)))) (a_ (Aside0.mk hb) (Aside0.mk ho)))); clear HO_502001 BK501 BK502 HB HO_6; obtain ⟨HO_502001, BK501, BK502, HB, HO508⟩ := n_; clear ho hb hg hat))
        go_roundg k1
        case measure => have := HK1.out; omega
        case rel => exact ⟨(y506), (wrap64 (x7_1 + 1)), (by first | rfl | (simp; done) | (simp [*]; done)), H', ⟨by have := HK1.out; omega⟩, ⟨by (with_reducible repeat (first | apply Kd.R_alloc | apply Kd.R_drewN | apply Kd.R_drew)); exact HO508.out⟩, ⟨by (with_reducible repeat (first | apply Kd.V_alloc | apply Kd.V_drewN | apply Kd.V_drew)); exact Kd.V_mono HO_502001.out (fun _ hk => ⟨hk.1.1, ⟨hk.2, ⟨hk.1.2.1, hk.1.2.2⟩⟩⟩)⟩, ⟨by (with_reducible repeat (first | refine blk_drewN ?_ _ | refine blk_drew ?_ | refine blk_alloc ?_ _)); exact BK501.out⟩, ⟨by (with_reducible repeat (first | refine blk_drewN ?_ _ | refine blk_drew ?_ | refine blk_alloc ?_ _)); exact BK502.out⟩, ⟨HB_⟩⟩
      rw [if_neg c18] at H
      have c18b0 : ((Int.tmod x7_1 (wrap64 (a0_0 + 1))) == a1) = false := beq_eq_false_iff_ne.mpr c18
      have c18b0v : ((Int.tmod x7_1 (IntKind.i64.wrap (a0_0 + 1))) == a1) = false := by (try simp only [i64_w]); exact c18b0
      have c18b1 : ((Int.tmod x7_1 (wrap64 (a0_0 + 1))) != a1) = true := bne_iff_ne.mpr c18
      have c18b1v : ((Int.tmod x7_1 (IntKind.i64.wrap (a0_0 + 1))) != a1) = true := by (try simp only [i64_w]); exact c18b1
      replace H := yes_ H
      obtain ⟨c21, H⟩ := H
      have c21b0 : decide (0 ≤ x7_1) = true := decide_eq_true c21
      clear c21
      replace H := yes_ H
      obtain ⟨c22, H⟩ := H
      have c22b0 : decide (x7_1 < (l0_1.length : Int)) = true := decide_eq_true c22
      clear c22
      replace H := yes_ H
      obtain ⟨c23, H⟩ := H
      have LMc23 := Aside0.mk c23
      clear c23
      obtain ⟨y510, hy510⟩ : ∃ y_ : List Int, y_ = (x6_1 ++ [rd l0_1 x7_1]) := ⟨_, rfl⟩
      replace H : (warrantorref09_Forget.l0 k1 a1 (wrap64 (a0_0 + 1)) y510 (wrap64 (x7_1 + 1)) a0_0 l0_1) = some (r1, r2) := by first | (rw [hy510]; with_reducible exact H) | (have H2_ := (Option.bind_some _ _).symm.trans H; rw [hy510]; with_reducible exact H2_) | (have H2_ := (Option.bind_some _ _).symm.trans H; with_reducible exact H2_) | with_reducible exact H | (rw [hy510]; exact H) | exact H
      have Ny510 := Aside0.mk hy510
      clear hy510
      have H' := Aside0.mk H
      clear H
      have hnb24 := NB501_502.out
      have hnc24 := NB502_501.out
      obtain ⟨hcz25_0, hcz25_1, hfz25_0, hfz25_1⟩ := cz2_ BK501
      have p509 : 0 ≤ (x7_1 : Int) := of_decide_eq_true (by first | (with_reducible assumption) | assumption)
      have q509 : x7_1 < (l0_1.length : Int) := of_decide_eq_true (by first | (with_reducible assumption) | assumption)
      obtain ⟨ad509, e509, hx509_0⟩ := Kd.at_int (Kd.V_reads' HO_502001.out).2.2 x7_1 p509 q509
      cases e509
      replace p509 := eq_true p509
      replace q509 := eq_true q509
      go_wp2_with (first | ((with_reducible refine gate_builtin (b := .append) (xs := #[.tmp 38, .tmp 44]) rfl ?_); at_builtin; refine Kd.R_append (Kd.int .i64) (w0 := w) w.heap.size rfl (.tmp 38) (.tmp 44) 22 3 (.int .i64 0) 8 rfl Try.underlying22 info3 rfl (by decide) (by omega) u6 x6_1 (rd l0_1 x7_1) [.int .i64 (rd l0_1 x7_1)] (fun k_ => (w.heap.size ≤ k_)) (fun _ => False) rfl rfl ?aP (fun _ hk => hk.elim) ?aF ?aO ?aB ?aS ?aL ?_; (case aP => exact rfl); (case aB => exact HB_); (case aF => exact (fun k_ hk => (Nat.le_trans (below_size HB_) hk))); (case aO => exact (rd_ HO_6.out)); (case aS => exact (below_size HB_)); (case aL => have := LMc23.out; omega); intro v511 w26 ho hb hg hat; rw [← Ny510.out] at ho; have n_ := a_ (Aside0.mk (Kd.V_afterv (ok := (fun k_ => (P0_1_ k_ ∨ w.heap.size ≤ k_) ∧ k_ ≠ gb501 ∧ k_ ≠ gb502)) (by (with_reducible repeat (first | apply Kd.V_alloc | apply Kd.V_drewN | apply Kd.V_drew)); exact Kd.V_mono HO_502001.out (fun _ hk => ⟨⟨hk.1, ⟨hk.2.2.1, hk.2.2.2⟩⟩, hk.2.1⟩)) hg hat)) (a_ (Aside0.mk (blk_grown (g := gb501) (o := .cells #[.int .i64 a0_0, .slice (some ad509) l0_1.length c0_1] 24 (0, 0)) (bk_ BK501.out) hg (Kd.R_ne HO_6.out BK501.out (by decide)))) (a_ (Aside0.mk (blk_grown (g := gb502) (o := .cells #[.int .i64 0, .slice none 0 0] 24 (0, 0)) (bk_ BK502.out) hg (Kd.R_ne HO_6.out BK502.out (by decide)))) (a_ (Aside0.mk hb) (Aside0.mk ho)))); clear HO_502001 BK501 BK502 HB HO_6; obtain ⟨HO_502001, BK501, BK502, HB, HO512⟩ := n_; clear ho hb hg hat))
      go_roundg k1
      case measure => have := HK1.out; omega
      case rel => exact ⟨(y510), (wrap64 (x7_1 + 1)), (by first | rfl | (simp; done) | (simp [*]; done)), H', ⟨by have := HK1.out; omega⟩, ⟨by (with_reducible repeat (first | apply Kd.R_alloc | apply Kd.R_drewN | apply Kd.R_drew)); exact HO512.out⟩, ⟨by (with_reducible repeat (first | apply Kd.V_alloc | apply Kd.V_drewN | apply Kd.V_drew)); exact Kd.V_mono HO_502001.out (fun _ hk => ⟨hk.1.1, ⟨hk.2, ⟨hk.1.2.1, hk.1.2.2⟩⟩⟩)⟩, ⟨by (with_reducible repeat (first | refine blk_drewN ?_ _ | refine blk_drew ?_ | refine blk_alloc ?_ _)); exact BK501.out⟩, ⟨by (with_reducible repeat (first | refine blk_drewN ?_ _ | refine blk_drew ?_ | refine blk_alloc ?_ _)); exact BK502.out⟩, ⟨HB_⟩⟩
/-! ### warrantorref09_Limit: function 32 -/
def warrantorref09_Limit.f (k : Nat) (a0_0 : Int) (l0_1 : List Int) (a1 : Int) (a2 : Int) (a3 : Int) : Option (Int × List Int) := if (l0_1.length : Int) = 0 then (some (a0_0, l0_1)) else ((some (([] : List Int) : List Int)).bind fun y519 => (if y519.length + l0_1.length < 17592186044416 then ((some (y519 ++ l0_1 : List Int)).bind fun y522 => (if 0 ≤ (wrap64 ((wrap64 (a1 * (wrap64 (a0_0 + 1)))) + a2)) then (if (wrap64 ((wrap64 (a1 * (wrap64 (a0_0 + 1)))) + a2)) < (y522.length : Int) then (if a3 < (rd y522 (wrap64 ((wrap64 (a1 * (wrap64 (a0_0 + 1)))) + a2))) then ((warrantorref08_Close.f k a0_0 (y522.set ((wrap64 ((wrap64 (a1 * (wrap64 (a0_0 + 1)))) + a2)) : Int).toNat a3)).bind fun bt527 => (some (bt527.1, bt527.2))) else ((warrantorref08_Close.f k a0_0 y522).bind fun bt531 => (some (bt531.1, bt531.2)))) else (none)) else (none))) else (none)))
theorem warrantorref09_Limit.mono : ∀ a0 a1 a2 a3 a4 k, LeO (warrantorref09_Limit.f k a0 a1 a2 a3 a4) (warrantorref09_Limit.f (k + 1) a0 a1 a2 a3 a4) := by
  intro a0 a1 a2 a3 a4 k
  unfold warrantorref09_Limit.f
  repeat' first
      | (with_reducible exact warrantorref08_Close.mono _ _ _)
      | (with_reducible exact LeO.refl _)
      | (with_reducible exact LeO.none _)
      | (with_reducible refine LeO.ite ?_ ?_)
      | (with_reducible refine LeO.bind ?_ (fun _ => ?_))
      | exact warrantorref08_Close.mono _ _ _
      | exact LeO.none _
      | refine LeO.ite ?_ ?_
      | refine LeO.bind ?_ (fun _ => ?_)
set_option maxHeartbeats 8000000 in
set_option maxRecDepth 100000 in
theorem warrantorref09_Limit.calls (k : Nat) (a0_0 : Int) (P0_1_ : Nat → Prop) (A0_1 : Option Addr) (c0_1 : Nat) (l0_1 : List Int) (a1 : Int) (a2 : Int) (a3 : Int) (r1 : Int) (r2 : List Int) (w : World) (hs0_1 : Kd.V (Kd.int .i64) 3 w w.heap.size (fun k_ => P0_1_ k_) (.slice A0_1 l0_1.length c0_1) l0_1) (h : warrantorref09_Limit.f k a0_0 l0_1 a1 a2 a3 = some (r1, r2)) :
    Calls Try.prog 32 #[.agg #[.int .i64 a0_0, .slice A0_1 l0_1.length c0_1], .int .i64 a1, .int .i64 a2, .int .i64 a3] w fun e w' => ∃ v1_ : Value, e = .returned (.agg #[.int .i64 r1, v1_]) ∧ Kd.V (Kd.int .i64) 3 w' w.heap.size (fun k_ => (P0_1_ k_ ∨ w.heap.size ≤ k_)) v1_ r2 ∧ Below w.heap.size w w' := by
  have hu24 := Try.underlying24
  have HO0_1 := Aside0.mk (show Kd.V (Kd.int .i64) 3 w w.heap.size (fun k_ => (P0_1_ k_ ∨ w.heap.size ≤ k_)) (.slice A0_1 l0_1.length c0_1) l0_1 from Kd.V_mono hs0_1 (fun k_ hk => .inl hk))
  have HB := Aside0.mk (Below.refl w.heap.size w)
  have H : (if (l0_1.length : Int) = 0 then (some (a0_0, l0_1)) else ((some (([] : List Int) : List Int)).bind fun y519 => (if y519.length + l0_1.length < 17592186044416 then ((some (y519 ++ l0_1 : List Int)).bind fun y522 => (if 0 ≤ (wrap64 ((wrap64 (a1 * (wrap64 (a0_0 + 1)))) + a2)) then (if (wrap64 ((wrap64 (a1 * (wrap64 (a0_0 + 1)))) + a2)) < (y522.length : Int) then (if a3 < (rd y522 (wrap64 ((wrap64 (a1 * (wrap64 (a0_0 + 1)))) + a2))) then ((warrantorref08_Close.f k a0_0 (y522.set ((wrap64 ((wrap64 (a1 * (wrap64 (a0_0 + 1)))) + a2)) : Int).toNat a3)).bind fun bt527 => (some (bt527.1, bt527.2))) else ((warrantorref08_Close.f k a0_0 y522).bind fun bt531 => (some (bt531.1, bt531.2)))) else (none)) else (none))) else (none)))) = some (r1, r2) := h
  clear h
  by_cases c5 : (l0_1.length : Int) = 0
  · rw [if_pos c5] at H
    have c5b0 : ((l0_1.length : Int) == 0) = true := beq_iff_eq.mpr c5
    have c5b1 : ((l0_1.length : Int) != 0) = false := bne_eq_false_iff_eq.mpr c5
    clear c5
    simp only [Option.some.injEq, Prod.mk.injEq] at H
    obtain ⟨rfl, rfl⟩ := H
    go_enter Try.func32, Try.ntmps32
    go_wp2_with (first | ((with_reducible refine gate_dst (N := 4) rfl ?_); refine bx_ (N := 4) (cs := #[.int .i64 a0_0, .slice A0_1 l0_1.length c0_1]) (t := 24) ?_; intro gb517 hg w6 hbox hb; have n_ := a_ (Aside0.mk (Kd.V_below (Kd.V_elderB (by (with_reducible repeat (first | apply Kd.V_alloc | apply Kd.V_drewN | apply Kd.V_drew)); exact HO0_1.out) gb517 (Nat.le_of_eq hg.symm)) hb)) (a_ (bs_ HB hb) (a_ (Aside0.mk hbox) (a_ (gs_ HB hg) (gs_ HB hg)))); clear HO0_1 HB; obtain ⟨HO0_1, HB, BK517, GW517, GE517⟩ := n_; clear hb hbox hg) | ((with_reducible refine gate_dst (N := 8) rfl ?_); refine bx_ (N := 8) (cs := #[.int .i64 0, .slice none 0 0]) (t := 24) ?_; intro gb518 hg w7 hbox hb; have n_ := a_ (Aside0.mk (Kd.V_below (Kd.V_elderB (by (with_reducible repeat (first | apply Kd.V_alloc | apply Kd.V_drewN | apply Kd.V_drew)); exact HO0_1.out) gb518 (Nat.le_of_eq hg.symm)) hb)) (a_ (bb_ BK517 hb) (a_ (bs_ HB hb) (a_ (Aside0.mk hbox) (a_ (gs_ HB hg) (a_ (gs_ HB hg) (a_ (nl_ BK517 hg) (ng_ BK517 hg))))))); clear HO0_1 BK517 HB; obtain ⟨HO0_1, BK517, HB, BK518, GW518, GE518, NB517_518, NB518_517⟩ := n_; clear hb hbox hg; have hnb8 := NB517_518.out; have hnc8 := NB518_517.out; obtain ⟨hcz9_0, hcz9_1, hfz9_0, hfz9_1⟩ := cz2_ BK517; obtain ⟨hcz10_0, hcz10_1, hfz10_0, hfz10_1⟩ := cz2_ BK518))
    refine bodyPost_ret (results_cell_row rfl _ _ gb518 24 #[.int .i64 a0_0, .slice A0_1 l0_1.length c0_1] (0, 0) _ rfl (bk2_ BK518.out) Try.underlying24 rfl (by kernel_rfl)) rfl ?_
    exact ⟨_, by first | rfl | (simp [errW_none, errW_some] <;> rfl) | (simp [*, errW_none, errW_some] <;> rfl), by (with_reducible repeat (first | apply Kd.V_alloc | apply Kd.V_drewN | apply Kd.V_drew)); exact Kd.V_mono (Kd.V_far (p := ⟨gb518, 1, none⟩) (Kd.V_far (p := ⟨gb518, 0, none⟩) (Kd.V_mono HO0_1.out (fun k_ hk => (⟨hk, hk.2⟩ : _ ∧ k_ ≠ gb518))) (fun _ hk => hk.2) (.int .i64 a0_0)) (fun _ hk => hk.2) (.slice A0_1 l0_1.length c0_1)) (fun _ hk => hk.1.1.1), HB_⟩
  rw [if_neg c5] at H
  have c5b0 : ((l0_1.length : Int) == 0) = false := beq_eq_false_iff_ne.mpr c5
  have c5b1 : ((l0_1.length : Int) != 0) = true := bne_iff_ne.mpr c5
  have c5b2 : ¬ (l0_1 = []) := fun h_ => c5 (by rw [h_]; rfl)
  obtain ⟨y519, hy519⟩ : ∃ y_ : List Int, y_ = (([] : List Int)) := ⟨_, rfl⟩
  replace H : (if y519.length + l0_1.length < 17592186044416 then ((some (y519 ++ l0_1 : List Int)).bind fun y522 => (if 0 ≤ (wrap64 ((wrap64 (a1 * (wrap64 (a0_0 + 1)))) + a2)) then (if (wrap64 ((wrap64 (a1 * (wrap64 (a0_0 + 1)))) + a2)) < (y522.length : Int) then (if a3 < (rd y522 (wrap64 ((wrap64 (a1 * (wrap64 (a0_0 + 1)))) + a2))) then ((warrantorref08_Close.f k a0_0 (y522.set ((wrap64 ((wrap64 (a1 * (wrap64 (a0_0 + 1)))) + a2)) : Int).toNat a3)).bind fun bt527 => (some (bt527.1, bt527.2))) else ((warrantorref08_Close.f k a0_0 y522).bind fun bt531 => (some (bt531.1, bt531.2)))) else (none)) else (none))) else (none)) = some (r1, r2) := by first | (rw [hy519]; with_reducible exact H) | (have H2_ := (Option.bind_some _ _).symm.trans H; rw [hy519]; with_reducible exact H2_) | (have H2_ := (Option.bind_some _ _).symm.trans H; with_reducible exact H2_) | with_reducible exact H | (rw [hy519]; exact H) | exact H
  have Ny519 := Aside0.mk hy519
  clear hy519
  replace H := yes_ H
  obtain ⟨c11, H⟩ := H
  have LMc11 := Aside0.mk c11
  clear c11
  obtain ⟨y522, hy522⟩ : ∃ y_ : List Int, y_ = (y519 ++ l0_1) := ⟨_, rfl⟩
  replace H : (if 0 ≤ (wrap64 ((wrap64 (a1 * (wrap64 (a0_0 + 1)))) + a2)) then (if (wrap64 ((wrap64 (a1 * (wrap64 (a0_0 + 1)))) + a2)) < (y522.length : Int) then (if a3 < (rd y522 (wrap64 ((wrap64 (a1 * (wrap64 (a0_0 + 1)))) + a2))) then ((warrantorref08_Close.f k a0_0 (y522.set ((wrap64 ((wrap64 (a1 * (wrap64 (a0_0 + 1)))) + a2)) : Int).toNat a3)).bind fun bt527 => (some (bt527.1, bt527.2))) else ((warrantorref08_Close.f k a0_0 y522).bind fun bt531 => (some (bt531.1, bt531.2)))) else (none)) else (none)) = some (r1, r2) := by first | (rw [hy522]; with_reducible exact H) | (have H2_ := (Option.bind_some _ _).symm.trans H; rw [hy522]; with_reducible exact H2_) | (have H2_ := (Option.bind_some _ _).symm.trans H; with_reducible exact H2_) | with_reducible exact H | (rw [hy522]; exact H) | exact H
  have Ny522 := Aside0.mk hy522
  clear hy522
  obtain ⟨ji12, hji12⟩ : ∃ j_ : Int, (wrap64 ((wrap64 (a1 * (wrap64 (a0_0 + 1)))) + a2)) = j_ := ⟨_, rfl⟩
  replace H : (if 0 ≤ (ji12) then (if (ji12) < (y522.length : Int) then (if a3 < (rd y522 (ji12)) then ((warrantorref08_Close.f k a0_0 (y522.set ((ji12) : Int).toNat a3)).bind fun bt527 => (some (bt527.1, bt527.2))) else ((warrantorref08_Close.f k a0_0 y522).bind fun bt531 => (some (bt531.1, bt531.2)))) else (none)) else (none)) = some (r1, r2) := by first | (rw [hji12] at H; exact H) | (simp only [hji12] at H ⊢; exact H)
  have hji12w : (IntKind.i64.wrap ((wrap64 (a1 * (wrap64 (a0_0 + 1)))) + a2)) = ji12 := (i64_w _).trans hji12
  have hji12v : (IntKind.i64.wrap ((IntKind.i64.wrap (a1 * (IntKind.i64.wrap (a0_0 + 1)))) + a2)) = ji12 := by (try simp only [i64_w]); first | exact hji12 | exact hji12w
  replace H := yes_ H
  obtain ⟨c13, H⟩ := H
  have c13b0 : decide (0 ≤ (ji12)) = true := decide_eq_true c13
  clear c13
  replace H := yes_ H
  obtain ⟨c14, H⟩ := H
  have c14b0 : decide ((ji12) < (y522.length : Int)) = true := decide_eq_true c14
  clear c14
  by_cases c15 : a3 < (rd y522 (ji12))
  rotate_left
  · rw [if_neg c15] at H
    have c15b0 : decide (a3 < (rd y522 (ji12))) = false := decide_eq_false c15
    clear c15
    replace H := Option.bind_eq_some_iff.mp H
    obtain ⟨⟨t531, t532⟩, A340, H⟩ := H
    replace H : (some (t531, t532)) = some (r1, r2) := H
    have A34 := Aside0.mk A340
    clear A340
    simp only [Option.some.injEq, Prod.mk.injEq] at H
    obtain ⟨rfl, rfl⟩ := H
    go_enter Try.func32, Try.ntmps32
    go_wp2_with (first | ((with_reducible refine gate_dst (N := 4) rfl ?_); refine bx_ (N := 4) (cs := #[.int .i64 a0_0, .slice A0_1 l0_1.length c0_1]) (t := 24) ?_; intro gb517 hg w35 hbox hb; have n_ := a_ (Aside0.mk (Kd.V_below (Kd.V_elderB (by (with_reducible repeat (first | apply Kd.V_alloc | apply Kd.V_drewN | apply Kd.V_drew)); exact HO0_1.out) gb517 (Nat.le_of_eq hg.symm)) hb)) (a_ (bs_ HB hb) (a_ (Aside0.mk hbox) (a_ (gs_ HB hg) (gs_ HB hg)))); clear HO0_1 HB; obtain ⟨HO0_1, HB, BK517, GW517, GE517⟩ := n_; clear hb hbox hg) | ((with_reducible refine gate_dst (N := 8) rfl ?_); refine bx_ (N := 8) (cs := #[.int .i64 0, .slice none 0 0]) (t := 24) ?_; intro gb518 hg w36 hbox hb; have n_ := a_ (Aside0.mk (Kd.V_below (Kd.V_elderB (by (with_reducible repeat (first | apply Kd.V_alloc | apply Kd.V_drewN | apply Kd.V_drew)); exact HO0_1.out) gb518 (Nat.le_of_eq hg.symm)) hb)) (a_ (bb_ BK517 hb) (a_ (bs_ HB hb) (a_ (Aside0.mk hbox) (a_ (gs_ HB hg) (a_ (gs_ HB hg) (a_ (nl_ BK517 hg) (ng_ BK517 hg))))))); clear HO0_1 BK517 HB; obtain ⟨HO0_1, BK517, HB, BK518, GW518, GE518, NB517_518, NB518_517⟩ := n_; clear hb hbox hg; have hnb37 := NB517_518.out; have hnc37 := NB518_517.out; obtain ⟨hcz38_0, hcz38_1, hfz38_0, hfz38_1⟩ := cz2_ BK517) | ((with_reducible refine gate_dst (N := 16) rfl ?_); refine Kd.R_lit (Kd.int .i64) _ 3 ?hg (N := 16) ?hd (xs := ([] : List Int)) (inner := []) (ok := fun _ => True) (okp := fun _ => True) ?hr ?hp (fun _ hk => hk) trivial (Below.refl _ _) (Nat.le_refl _) (by simp) ?_; (case hd => rfl); (case hg => rfl); (case hr => first | (go_simp; done) | (go_simp; rfl)); (case hp => exact (Reps.none _ _)); intro v520 w39 ho40 hb hg_ hnew_; clear hg_ hnew_; (first | rw [← Ny519.out] at ho40 | (simp only [Int.reduceToNat] at ho40; rw [← Ny519.out] at ho40)); have n_ := a_ (Aside0.mk (Kd.V_elder' (by (with_reducible repeat (first | apply Kd.V_alloc | apply Kd.V_drewN | apply Kd.V_drew)); exact HO0_1.out) (Kd.R_base ho40) hb)) (a_ (Aside0.mk (Kd.R_lower (Kd.R_newM (M := fun k_ => (w.heap.size ≤ k_)) ho40 (below_size HB_) (fun k_ h_ => h_)) (below_size HB_))) (a_ (bb_ BK517 hb) (a_ (bb_ BK518 hb) (bs_ HB hb)))); clear HO0_1 BK517 BK518 HB; obtain ⟨HO0_1, HO521, BK517, BK518, HB⟩ := n_; clear hb ho40; obtain ⟨hcz41_0, hcz41_1, hfz41_0, hfz41_1⟩ := cz2_ BK517) | ((with_reducible refine gate_builtin (b := .append) (xs := #[.tmp 16, .tmp 18]) rfl ?_); at_builtin; refine Kd.R_append_rows (Kd.int .i64) (w0 := w) w.heap.size rfl (.tmp 16) (.tmp 18) 22 3 (.int .i64 0) 8 rfl Try.underlying22 info3 rfl (by decide) (by omega) v520 y519 l0_1 _ _ _ (fun k_ => (w.heap.size ≤ k_)) (fun _ => False) rfl rfl ?aO ?aR (fun _ _ h => h) (fun _ h => h.elim) ?aF ?aB ?aS ?aL ?_; (case aR => repeat (first | exact (Kd.V_reads' HO0_1.out).2.2 | (with_reducible refine Kd.C_alloc ?_ _) | (with_reducible refine Kd.C_drewN ?_ _) | (with_reducible refine Kd.C_drew ?_))); (case aB => exact HB_); (case aF => exact (fun k_ hk => (Nat.le_trans (below_size HB_) hk))); (case aO => exact (rd_ (Kd.R_mono HO521.out (fun _ hk => hk.1)))); (case aS => exact (below_size HB_)); (case aL => have := LMc11.out; omega); intro v523 w42 ho hb hg hat; rw [← Ny522.out] at ho; have n_ := a_ (Aside0.mk (Kd.V_afterv (ok := (fun k_ => (P0_1_ k_ ∨ w.heap.size ≤ k_) ∧ k_ ≠ gb517 ∧ k_ ≠ gb518)) (by (with_reducible repeat (first | apply Kd.V_alloc | apply Kd.V_drewN | apply Kd.V_drew)); exact Kd.V_mono HO0_1.out (fun _ hk => ⟨⟨hk.1.1.1, ⟨hk.1.1.2, hk.1.2⟩⟩, hk.2⟩)) hg hat)) (a_ (Aside0.mk (blk_grown (g := gb517) (o := .cells #[.int .i64 a0_0, .slice A0_1 l0_1.length c0_1] 24 (0, 0)) (bk_ BK517.out) hg (Kd.R_ne HO521.out BK517.out (by decide)))) (a_ (Aside0.mk (blk_grown (g := gb518) (o := .cells #[.int .i64 0, .slice none 0 0] 24 (0, 0)) (bk_ BK518.out) hg (Kd.R_ne HO521.out BK518.out (by decide)))) (a_ (Aside0.mk hb) (Aside0.mk ho)))); clear HO0_1 BK517 BK518 HB HO521; obtain ⟨HO0_1, BK517, BK518, HB, HO524⟩ := n_; clear ho hb hg hat; obtain ⟨hcz43_0, hcz43_1, hfz43_0, hfz43_1⟩ := cz2_ BK517; obtain ⟨Ao44, co44, eo44⟩ := Kd.R_slice HO524.out; subst eo44; have p525 : 0 ≤ ((ji12) : Int) := of_decide_eq_true (by first | (with_reducible assumption) | assumption); have q525 : (ji12) < (y522.length : Int) := of_decide_eq_true (by first | (with_reducible assumption) | assumption); obtain ⟨ad525, e525, hx525_0⟩ := Kd.at_int (Kd.R_reads' HO524.out).2.2 (ji12) p525 q525; cases e525; replace p525 := eq_true p525; replace q525 := eq_true q525) | ((with_reducible refine gate_callee (f := 76) rfl ?_); refine goesL_ (some 40) rfl rfl Try.func76 (by kernel_rfl) rfl #[.int .i64 a0_0, .slice (some ad525) y522.length co44] rfl MP_ ?_; (with_reducible refine (warrantorref08_Close.calls k a0_0 _ _ y522 t531 t532 _ ?side1 ?side2 A34.out).mono ?_); (case side1 => repeat (first | exact (Kd.R_reads' HO524.out).2.2 | (with_reducible refine Kd.C_alloc ?_ _) | (with_reducible refine Kd.C_drewN ?_ _) | (with_reducible refine Kd.C_drew ?_))); (case side2 => exact (Kd.R_reads' HO524.out).2.1); rintro e w45 ⟨v533, rfl, ho0, hb⟩; refine ⟨_, rfl, ?_⟩; have n_ := a_ (Aside0.mk (Kd.V_elder' (by (with_reducible repeat (first | apply Kd.V_alloc | apply Kd.V_drewN | apply Kd.V_drew)); exact HO0_1.out) (Kd.R_base ho0) hb)) (a_ (Aside0.mk (Kd.R_elder' (rd_ HO524.out) (Kd.R_base ho0) hb)) (a_ (Aside0.mk (Kd.R_lower (Kd.R_new' (Kd.R_newM (M := fun k_ => (w.heap.size ≤ k_)) ho0 (below_size HB_) (fun k_ h_ => h_)) (Kd.R_lt (rd_ HO524.out))) (below_size HB_))) (a_ (bb_ BK517 hb) (a_ (bb_ BK518 hb) (bs_ HB hb))))); clear HO0_1 HO524 BK517 BK518 HB; obtain ⟨HO0_1, HO524, HO534, BK517, BK518, HB⟩ := n_; (try clear hb); (try clear hb2); (try clear hk); (try clear hi); (try clear ho0); obtain ⟨hcz46_0, hcz46_1, hfz46_0, hfz46_1⟩ := cz2_ BK518; obtain ⟨Ao47, co47, eo47⟩ := Kd.R_slice HO534.out; subst eo47))
    refine bodyPost_ret (results_cell_row rfl _ _ gb518 24 #[.int .i64 t531, .slice Ao47 t532.length co47] (0, 0) _ rfl (bk2_ BK518.out) Try.underlying24 rfl (by kernel_rfl)) rfl ?_
    exact ⟨_, by first | rfl | (simp [errW_none, errW_some] <;> rfl) | (simp only [← hji12]; first | rfl | (simp [errW_none, errW_some] <;> rfl)) | (simp [*, errW_none, errW_some] <;> rfl), Kd.V_mono (Kd.R_V (rd_ (Kd.R_mono (Kd.R_far (p := ⟨gb518, 1, none⟩) (Kd.R_far (p := ⟨gb518, 0, none⟩) (Kd.R_types HO534.out BK518.out (by decide)) (fun _ hk => hk.2) (.int .i64 t531)) (fun _ hk => hk.2) (.slice Ao47 t532.length co47)) (fun _ hk => hk.1.1.1)))) (fun k_ hk => by first | exact ⟨(.inr (hk.1)), hk.2⟩ | exact (.inr (hk))), HB_⟩
  rw [if_pos c15] at H
  have c15b0 : decide (a3 < (rd y522 (ji12))) = true := decide_eq_true c15
  clear c15
  obtain ⟨y526, hy526⟩ : ∃ y_ : List Int, y_ = (y522.set ((ji12) : Int).toNat a3) := ⟨_, rfl⟩
  replace H : ((warrantorref08_Close.f k a0_0 y526).bind fun bt527 => (some (bt527.1, bt527.2))) = some (r1, r2) := by first | (rw [hy526]; with_reducible exact H) | (have H2_ := (Option.bind_some _ _).symm.trans H; rw [hy526]; with_reducible exact H2_) | (have H2_ := (Option.bind_some _ _).symm.trans H; with_reducible exact H2_) | with_reducible exact H | (rw [hy526]; exact H) | exact H
  have Ny526 := Aside0.mk hy526
  clear hy526
  replace H := Option.bind_eq_some_iff.mp H
  obtain ⟨⟨t527, t528⟩, A170, H⟩ := H
  replace H : (some (t527, t528)) = some (r1, r2) := H
  have A17 := Aside0.mk A170
  clear A170
  simp only [Option.some.injEq, Prod.mk.injEq] at H
  obtain ⟨rfl, rfl⟩ := H
  go_enter Try.func32, Try.ntmps32
  go_wp2_with (first | ((with_reducible refine gate_dst (N := 4) rfl ?_); refine bx_ (N := 4) (cs := #[.int .i64 a0_0, .slice A0_1 l0_1.length c0_1]) (t := 24) ?_; intro gb517 hg w18 hbox hb; have n_ := a_ (Aside0.mk (Kd.V_below (Kd.V_elderB (by (with_reducible repeat (first | apply Kd.V_alloc | apply Kd.V_drewN | apply Kd.V_drew)); exact HO0_1.out) gb517 (Nat.le_of_eq hg.symm)) hb)) (a_ (bs_ HB hb) (a_ (Aside0.mk hbox) (a_ (gs_ HB hg) (gs_ HB hg)))); clear HO0_1 HB; obtain ⟨HO0_1, HB, BK517, GW517, GE517⟩ := n_; clear hb hbox hg) | ((with_reducible refine gate_dst (N := 8) rfl ?_); refine bx_ (N := 8) (cs := #[.int .i64 0, .slice none 0 0]) (t := 24) ?_; intro gb518 hg w19 hbox hb; have n_ := a_ (Aside0.mk (Kd.V_below (Kd.V_elderB (by (with_reducible repeat (first | apply Kd.V_alloc | apply Kd.V_drewN | apply Kd.V_drew)); exact HO0_1.out) gb518 (Nat.le_of_eq hg.symm)) hb)) (a_ (bb_ BK517 hb) (a_ (bs_ HB hb) (a_ (Aside0.mk hbox) (a_ (gs_ HB hg) (a_ (gs_ HB hg) (a_ (nl_ BK517 hg) (ng_ BK517 hg))))))); clear HO0_1 BK517 HB; obtain ⟨HO0_1, BK517, HB, BK518, GW518, GE518, NB517_518, NB518_517⟩ := n_; clear hb hbox hg; have hnb20 := NB517_518.out; have hnc20 := NB518_517.out; obtain ⟨hcz21_0, hcz21_1, hfz21_0, hfz21_1⟩ := cz2_ BK517) | ((with_reducible refine gate_dst (N := 16) rfl ?_); refine Kd.R_lit (Kd.int .i64) _ 3 ?hg (N := 16) ?hd (xs := ([] : List Int)) (inner := []) (ok := fun _ => True) (okp := fun _ => True) ?hr ?hp (fun _ hk => hk) trivial (Below.refl _ _) (Nat.le_refl _) (by simp) ?_; (case hd => rfl); (case hg => rfl); (case hr => first | (go_simp; done) | (go_simp; rfl)); (case hp => exact (Reps.none _ _)); intro v520 w22 ho23 hb hg_ hnew_; clear hg_ hnew_; (first | rw [← Ny519.out] at ho23 | (simp only [Int.reduceToNat] at ho23; rw [← Ny519.out] at ho23)); have n_ := a_ (Aside0.mk (Kd.V_elder' (by (with_reducible repeat (first | apply Kd.V_alloc | apply Kd.V_drewN | apply Kd.V_drew)); exact HO0_1.out) (Kd.R_base ho23) hb)) (a_ (Aside0.mk (Kd.R_lower (Kd.R_newM (M := fun k_ => (w.heap.size ≤ k_)) ho23 (below_size HB_) (fun k_ h_ => h_)) (below_size HB_))) (a_ (bb_ BK517 hb) (a_ (bb_ BK518 hb) (bs_ HB hb)))); clear HO0_1 BK517 BK518 HB; obtain ⟨HO0_1, HO521, BK517, BK518, HB⟩ := n_; clear hb ho23; obtain ⟨hcz24_0, hcz24_1, hfz24_0, hfz24_1⟩ := cz2_ BK517) | ((with_reducible refine gate_builtin (b := .append) (xs := #[.tmp 16, .tmp 18]) rfl ?_); at_builtin; refine Kd.R_append_rows (Kd.int .i64) (w0 := w) w.heap.size rfl (.tmp 16) (.tmp 18) 22 3 (.int .i64 0) 8 rfl Try.underlying22 info3 rfl (by decide) (by omega) v520 y519 l0_1 _ _ _ (fun k_ => (w.heap.size ≤ k_)) (fun _ => False) rfl rfl ?aO ?aR (fun _ _ h => h) (fun _ h => h.elim) ?aF ?aB ?aS ?aL ?_; (case aR => repeat (first | exact (Kd.V_reads' HO0_1.out).2.2 | (with_reducible refine Kd.C_alloc ?_ _) | (with_reducible refine Kd.C_drewN ?_ _) | (with_reducible refine Kd.C_drew ?_))); (case aB => exact HB_); (case aF => exact (fun k_ hk => (Nat.le_trans (below_size HB_) hk))); (case aO => exact (rd_ (Kd.R_mono HO521.out (fun _ hk => hk.1)))); (case aS => exact (below_size HB_)); (case aL => have := LMc11.out; omega); intro v523 w25 ho hb hg hat; rw [← Ny522.out] at ho; have n_ := a_ (Aside0.mk (Kd.V_afterv (ok := (fun k_ => (P0_1_ k_ ∨ w.heap.size ≤ k_) ∧ k_ ≠ gb517 ∧ k_ ≠ gb518)) (by (with_reducible repeat (first | apply Kd.V_alloc | apply Kd.V_drewN | apply Kd.V_drew)); exact Kd.V_mono HO0_1.out (fun _ hk => ⟨⟨hk.1.1.1, ⟨hk.1.1.2, hk.1.2⟩⟩, hk.2⟩)) hg hat)) (a_ (Aside0.mk (blk_grown (g := gb517) (o := .cells #[.int .i64 a0_0, .slice A0_1 l0_1.length c0_1] 24 (0, 0)) (bk_ BK517.out) hg (Kd.R_ne HO521.out BK517.out (by decide)))) (a_ (Aside0.mk (blk_grown (g := gb518) (o := .cells #[.int .i64 0, .slice none 0 0] 24 (0, 0)) (bk_ BK518.out) hg (Kd.R_ne HO521.out BK518.out (by decide)))) (a_ (Aside0.mk hb) (Aside0.mk ho)))); clear HO0_1 BK517 BK518 HB HO521; obtain ⟨HO0_1, BK517, BK518, HB, HO524⟩ := n_; clear ho hb hg hat; obtain ⟨hcz26_0, hcz26_1, hfz26_0, hfz26_1⟩ := cz2_ BK517; obtain ⟨Ao27, co27, eo27⟩ := Kd.R_slice HO524.out; subst eo27; have p525 : 0 ≤ ((ji12) : Int) := of_decide_eq_true (by first | (with_reducible assumption) | assumption); have q525 : (ji12) < (y522.length : Int) := of_decide_eq_true (by first | (with_reducible assumption) | assumption); obtain ⟨ad525, e525, hx525_0⟩ := Kd.at_int (Kd.R_reads' HO524.out).2.2 (ji12) p525 q525; cases e525; replace p525 := eq_true p525; replace q525 := eq_true q525; have p16 : 0 ≤ ((ji12) : Int) := of_decide_eq_true (by first | (with_reducible assumption) | assumption); have q16 : ((ji12) : Int) < ((y522.length : Int) : Int) := of_decide_eq_true (by first | (with_reducible assumption) | assumption); obtain ⟨go16, co16, eo16, gb16, gl16, cl16, HG16⟩ := Kd.R_form HO524.out (by omega); (first | cases eo16 | (injection eo16 with ea_ en_ ec_; (first | subst ea_ | (injection ea_ with ea_; subst ea_)); subst ec_; clear en_)); have GB16 := Aside0.mk gb16; have GG16 := Aside0.mk HG16; clear gb16 gl16 HG16; (first | simp only [add_plain] at hx525_0 | skip); obtain ⟨hx16_0, hf16_0⟩ := Kd.R_celln 0 HO524.out ((ji12) : Int) p16 q16; replace p16 := eq_true p16; replace q16 := eq_true q16; obtain ⟨hy28_, hz28_⟩ := Kd.R_celln 0 HO524.out ((ji12) : Int) (of_decide_eq_true (by first | (with_reducible assumption) | assumption)) (of_decide_eq_true (by first | (with_reducible assumption) | assumption)); have HP28 := Kd.R_putg HO524.out ((ji12) : Int) a3) | ((with_reducible refine gate_store (t := 3) (p := 36) rfl ?_); refine store_event (t := 3) (p := 36) (v := ?vo_w29) (w1 := (w25.setCell ⟨go16, ((ji12) : Int).toNat, none⟩ (.int .i64 a3))) ?hg ?ho ?hn ?hr ?_; (case ho => rfl); (case hg => rfl); (case hn => rfl); (case hr => first | (go_simp; done) | (go_simp; rfl)); intro w29 hw; have hg : w25.grownBy w29 (some go16) := (by rw [hw]; exact HP28.2); have hp_ : Kd.R (Kd.int .i64) 3 w29 w.heap.size (fun k_ => (w.heap.size ≤ k_)) (.slice (some ⟨go16, 0, none⟩) y522.length co27) y526 := (by rw [hw, Ny526.out]; exact HP28.1); clear HP28; have n_ := a_ (Aside0.mk (Kd.V_afterv (v := (.slice (some ⟨go16, 0, none⟩) y522.length co27)) (v1 := (.slice (some ⟨go16, 0, none⟩) y522.length co27)) (ok := (fun k_ => (P0_1_ k_ ∨ w.heap.size ≤ k_) ∧ k_ ≠ gb517 ∧ k_ ≠ gb518)) (by (with_reducible repeat (first | apply Kd.V_alloc | apply Kd.V_drewN | apply Kd.V_drew)); exact HO0_1.out) hg (.inl rfl))) (a_ (Aside0.mk (blk_grown (g := gb517) (o := .cells #[.int .i64 a0_0, .slice A0_1 l0_1.length c0_1] 24 (0, 0)) (bk_ BK517.out) hg (Kd.R_ne HO524.out BK517.out (by decide)))) (a_ (Aside0.mk (blk_grown (g := gb518) (o := .cells #[.int .i64 0, .slice none 0 0] 24 (0, 0)) (bk_ BK518.out) hg (Kd.R_ne HO524.out BK518.out (by decide)))) (a_ (Aside0.mk hp_) (Aside0.mk (by rw [hw]; exact below_set (HB.out) GB16.out : Below w.heap.size w w29))))); clear HO0_1 BK517 BK518 HO524 HB; obtain ⟨HO0_1, BK517, BK518, HO524, HB⟩ := n_; clear hg hw hp_; obtain ⟨hcz30_0, hcz30_1, hfz30_0, hfz30_1⟩ := cz2_ BK517) | ((with_reducible refine gate_callee (f := 76) rfl ?_); refine goesL_ (some 40) rfl rfl Try.func76 (by kernel_rfl) rfl #[.int .i64 a0_0, .slice (some ⟨go16, 0, none⟩) y526.length co27] rfl (by (try simp only [List.map_toArray, List.map_cons, List.map_nil]); first | done | (rw [show y526.length = y522.length from (Kd.R_reads' HO524.out).1.symm] <;> rfl) | rfl | (simp only [List.length_drop, List.length_take]; rfl)) ?_; (with_reducible refine (warrantorref08_Close.calls k a0_0 _ _ y526 t527 t528 _ ?side1 ?side2 A17.out).mono ?_); (case side1 => repeat (first | exact (Kd.R_reads' HO524.out).2.2 | (with_reducible refine Kd.C_alloc ?_ _) | (with_reducible refine Kd.C_drewN ?_ _) | (with_reducible refine Kd.C_drew ?_))); (case side2 => rw [show y526.length = y522.length from (Kd.R_reads' HO524.out).1.symm]; exact (Kd.R_reads' HO524.out).2.1); rintro e w31 ⟨v529, rfl, ho0, hb⟩; refine ⟨_, rfl, ?_⟩; have n_ := a_ (Aside0.mk (Kd.V_elder' (by (with_reducible repeat (first | apply Kd.V_alloc | apply Kd.V_drewN | apply Kd.V_drew)); exact HO0_1.out) (Kd.R_base ho0) hb)) (a_ (Aside0.mk (Kd.R_elder' (rd_ HO524.out) (Kd.R_base ho0) hb)) (a_ (Aside0.mk (Kd.R_lower (Kd.R_new' (Kd.R_newM (M := fun k_ => (w.heap.size ≤ k_)) ho0 (below_size HB_) (fun k_ h_ => h_)) (Kd.R_lt (rd_ HO524.out))) (below_size HB_))) (a_ (bb_ BK517 hb) (a_ (bb_ BK518 hb) (bs_ HB hb))))); clear HO0_1 HO524 BK517 BK518 HB; obtain ⟨HO0_1, HO524, HO530, BK517, BK518, HB⟩ := n_; (try clear hb); (try clear hb2); (try clear hk); (try clear hi); (try clear ho0); obtain ⟨hcz32_0, hcz32_1, hfz32_0, hfz32_1⟩ := cz2_ BK518; obtain ⟨Ao33, co33, eo33⟩ := Kd.R_slice HO530.out; subst eo33))
  refine bodyPost_ret (results_cell_row rfl _ _ gb518 24 #[.int .i64 t527, .slice Ao33 t528.length co33] (0, 0) _ rfl (bk2_ BK518.out) Try.underlying24 rfl (by kernel_rfl)) rfl ?_
  exact ⟨_, by first | rfl | (simp [errW_none, errW_some] <;> rfl) | (simp only [← hji12]; first | rfl | (simp [errW_none, errW_some] <;> rfl)) | (simp [*, errW_none, errW_some] <;> rfl), Kd.V_mono (Kd.R_V (rd_ (Kd.R_mono (Kd.R_far (p := ⟨gb518, 1, none⟩) (Kd.R_far (p := ⟨gb518, 0, none⟩) (Kd.R_types HO530.out BK518.out (by decide)) (fun _ hk => hk.2) (.int .i64 t527)) (fun _ hk => hk.2) (.slice Ao33 t528.length co33)) (fun _ hk => hk.1.1.1)))) (fun k_ hk => by first | exact ⟨(.inr (hk.1)), hk.2⟩ | exact (.inr (hk))), HB_⟩
end Go.Proofs.Ytgeemdpflcefkaa.Z
