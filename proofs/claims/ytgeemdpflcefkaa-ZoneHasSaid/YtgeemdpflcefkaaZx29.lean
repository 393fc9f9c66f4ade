-- WRITTEN BY this session's program wip/ext.py, in print.py's manner
import Derived.Test.YtgeemdpflcefkaaZx0
import Derived.Test.YtgeemdpflcefkaaZx3
import Derived.Test.YtgeemdpflcefkaaZx8
import Derived.Test.YtgeemdpflcefkaaZx28
namespace Go.Proofs.Ytgeemdpflcefkaa.Z
open Go.RowKit Go.Proofs.YtgeemdpflcefkaaW.PrintWords Go.Proofs.YtgeemdpflcefkaaW.PrintLast Go.Proofs.YtgeemdpflcefkaaW.PrintMore
attribute [local go_sem] max2_int min2_int max_two min_two max_three min_three max_four min_four   -- for this text's walks alone
set_option linter.unusedVariables false
set_option linter.unusedSimpArgs false

/-! ### dbm_some: function 83 -/
def dbm_some.f (k : Nat) (a0_0 : Int) (l0_1 : List Int) (l1 : List Int) : Option (Bool) := (dbm_Check.f k a0_0 l0_1).bind fun t283 => (if t283 = 0 then (if (l0_1.length : Int) > 0 then ((dbm_some_1.f a0_0 l0_1 l1).bind fun t284 => (some (!t284))) else (some false)) else (some false))
theorem dbm_some.mono : ∀ a0 a1 a2 k, LeO (dbm_some.f k a0 a1 a2) (dbm_some.f (k + 1) a0 a1 a2) := by
  intro a0 a1 a2 k
  unfold dbm_some.f
  repeat' first
      | (with_reducible exact dbm_Check.mono _ _ _)
      | (with_reducible exact LeO.refl _)
      | (with_reducible exact LeO.none _)
      | (with_reducible refine LeO.ite ?_ ?_)
      | (with_reducible refine LeO.bind ?_ (fun _ => ?_))
      | exact dbm_Check.mono _ _ _
      | exact LeO.none _
      | refine LeO.ite ?_ ?_
      | refine LeO.bind ?_ (fun _ => ?_)
set_option maxHeartbeats 8000000 in
set_option maxRecDepth 100000 in
theorem dbm_some.calls (k : Nat) (a0_0 : Int) (A0_1 : Option Addr) (c0_1 : Nat) (l0_1 : List Int) (A1 : Option Addr) (c1 : Nat) (l1 : List Int) (r : Bool) (w : World) (hr0_1 : Kd.C (Kd.int .i64) w A0_1 l0_1.length l0_1) (hc0_1 : l0_1.length ≤ c0_1) (hr1 : Kd.C (Kd.int .i64) w A1 l1.length l1) (hc1 : l1.length ≤ c1) (h : dbm_some.f k a0_0 l0_1 l1 = some r) :
    Calls Try.prog 83 #[.agg #[.int .i64 a0_0, .slice A0_1 l0_1.length c0_1], .slice A1 l1.length c1] w fun e w' => e = .returned (.bool r) ∧ Below w.heap.size w w' := by
  have hu24 := Try.underlying24
  have HR0_1 := Aside0.mk hr0_1
  have HC0_1 := Aside0.mk hc0_1
  clear hr0_1 hc0_1
  have HR1 := Aside0.mk hr1
  have HC1 := Aside0.mk hc1
  clear hr1 hc1
  have HB := Aside0.mk (Below.refl w.heap.size w)
  have H : ((dbm_Check.f k a0_0 l0_1).bind fun t283 => (if t283 = 0 then (if (l0_1.length : Int) > 0 then ((dbm_some_1.f a0_0 l0_1 l1).bind fun t284 => (some (!t284))) else (some false)) else (some false))) = some r := h
  clear h
  replace H := bd_ H
  obtain ⟨t283, A3, H⟩ := H
  (try dsimp only at H)
  by_cases c4 : t283 = 0
  rotate_left
  · rw [if_neg c4] at H
    have c4b0 : (t283 == 0) = false := beq_eq_false_iff_ne.mpr c4
    have c4b1 : (t283 != 0) = true := bne_iff_ne.mpr c4
    obtain rfl := Option.some.inj H
    have hmf_ : ∀ (fn : Fn) (first cap : Array Value) (w : World), (Instr.makeFunc fn first cap).run Try.prog w = .ok (.func fn first cap) w := fun _ _ _ _ => rfl; go_enter Try.func83, Try.ntmps83
    go_wp2_with (first | ((with_reducible refine gate_dst (N := 2) rfl ?_); (try (refine gate_guard (by rfl) ?_; dsimp only)); refine bx_ (N := 2) (cs := #[.int .i64 a0_0, .slice A0_1 l0_1.length c0_1]) (t := 24) ?_; intro gb282 hg w16 hbox hb; have n_ := a_ (bs_ HB hb) (a_ (Aside0.mk hbox) (a_ (gs_ HB hg) (gs_ HB hg))); clear HB; obtain ⟨HB, BK282, GW282, GE282⟩ := n_; clear hb hbox hg; obtain ⟨hcz17_0, hcz17_1, hfz17_0, hfz17_1⟩ := cz2_ BK282) | ((with_reducible refine gate_callee (f := 91) rfl ?_); refine goesL_ (some 8) rfl rfl Try.func91 (by kernel_rfl) rfl #[.agg #[.int .i64 a0_0, .slice A0_1 l0_1.length c0_1]] rfl MP_ ?_; (with_reducible refine (dbm_Check.calls k a0_0 _ _ l0_1 t283 _ ?side1 ?side2 A3.out).mono ?_); (case side1 => exact sd_ (Kd.C_below HR0_1.out HB.out)); (case side2 => exact HC0_1.out); rintro e w18 ⟨rfl, hb⟩; refine ⟨_, rfl, ?_⟩; have n_ := a_ (bb_ BK282 hb) (bs_ HB hb); clear BK282 HB; obtain ⟨BK282, HB⟩ := n_; (try clear hb); (try clear hb2); (try clear hk); (try clear hi)))
    go_ret
    exact ⟨by first | rfl | (simp [errW_none, errW_some] <;> rfl) | (simp [*, errW_none, errW_some] <;> rfl), HB_⟩

  rw [if_pos c4] at H
  have c4b0 : (t283 == 0) = true := beq_iff_eq.mpr c4
  have c4b1 : (t283 != 0) = false := bne_eq_false_iff_eq.mpr c4
  clear c4
  by_cases c5 : (l0_1.length : Int) > 0
  rotate_left
  · rw [if_neg c5] at H
    have c5b0 : decide (0 < (l0_1.length : Int)) = false := decide_eq_false c5
    have c5b1 : decide (0 < l0_1.length) = false := decide_eq_false (by omega)
    clear c5
    obtain rfl := Option.some.inj H
    have hmf_ : ∀ (fn : Fn) (first cap : Array Value) (w : World), (Instr.makeFunc fn first cap).run Try.prog w = .ok (.func fn first cap) w := fun _ _ _ _ => rfl; go_enter Try.func83, Try.ntmps83
    go_wp2_with (first | ((with_reducible refine gate_dst (N := 2) rfl ?_); (try (refine gate_guard (by rfl) ?_; dsimp only)); refine bx_ (N := 2) (cs := #[.int .i64 a0_0, .slice A0_1 l0_1.length c0_1]) (t := 24) ?_; intro gb282 hg w12 hbox hb; have n_ := a_ (bs_ HB hb) (a_ (Aside0.mk hbox) (a_ (gs_ HB hg) (gs_ HB hg))); clear HB; obtain ⟨HB, BK282, GW282, GE282⟩ := n_; clear hb hbox hg; obtain ⟨hcz13_0, hcz13_1, hfz13_0, hfz13_1⟩ := cz2_ BK282) | ((with_reducible refine gate_callee (f := 91) rfl ?_); refine goesL_ (some 8) rfl rfl Try.func91 (by kernel_rfl) rfl #[.agg #[.int .i64 a0_0, .slice A0_1 l0_1.length c0_1]] rfl MP_ ?_; (with_reducible refine (dbm_Check.calls k a0_0 _ _ l0_1 t283 _ ?side1 ?side2 A3.out).mono ?_); (case side1 => exact sd_ (Kd.C_below HR0_1.out HB.out)); (case side2 => exact HC0_1.out); rintro e w14 ⟨rfl, hb⟩; refine ⟨_, rfl, ?_⟩; have n_ := a_ (bb_ BK282 hb) (bs_ HB hb); clear BK282 HB; obtain ⟨BK282, HB⟩ := n_; (try clear hb); (try clear hb2); (try clear hk); (try clear hi); obtain ⟨hcz15_0, hcz15_1, hfz15_0, hfz15_1⟩ := cz2_ BK282))
    go_ret
    exact ⟨by first | rfl | (simp [errW_none, errW_some] <;> rfl) | (simp [*, errW_none, errW_some] <;> rfl), HB_⟩
  rw [if_pos c5] at H
  have c5b0 : decide (0 < (l0_1.length : Int)) = true := decide_eq_true c5
  have c5b1 : decide (0 < l0_1.length) = true := decide_eq_true (by omega)
  clear c5
  replace H := bd_ H
  obtain ⟨t284, A6, H⟩ := H
  (try dsimp only at H)
  obtain rfl := Option.some.inj H
  have hmf_ : ∀ (fn : Fn) (first cap : Array Value) (w : World), (Instr.makeFunc fn first cap).run Try.prog w = .ok (.func fn first cap) w := fun _ _ _ _ => rfl; go_enter Try.func83, Try.ntmps83
  go_wp2_with (first | ((with_reducible refine gate_dst (N := 2) rfl ?_); (try (refine gate_guard (by rfl) ?_; dsimp only)); refine bx_ (N := 2) (cs := #[.int .i64 a0_0, .slice A0_1 l0_1.length c0_1]) (t := 24) ?_; intro gb282 hg w7 hbox hb; have n_ := a_ (bs_ HB hb) (a_ (Aside0.mk hbox) (a_ (gs_ HB hg) (gs_ HB hg))); clear HB; obtain ⟨HB, BK282, GW282, GE282⟩ := n_; clear hb hbox hg; obtain ⟨hcz8_0, hcz8_1, hfz8_0, hfz8_1⟩ := cz2_ BK282) | ((with_reducible refine gate_callee (f := 91) rfl ?_); refine goesL_ (some 8) rfl rfl Try.func91 (by kernel_rfl) rfl #[.agg #[.int .i64 a0_0, .slice A0_1 l0_1.length c0_1]] rfl MP_ ?_; (with_reducible refine (dbm_Check.calls k a0_0 _ _ l0_1 t283 _ ?side1 ?side2 A3.out).mono ?_); (case side1 => exact sd_ (Kd.C_below HR0_1.out HB.out)); (case side2 => exact HC0_1.out); rintro e w9 ⟨rfl, hb⟩; refine ⟨_, rfl, ?_⟩; have n_ := a_ (bb_ BK282 hb) (bs_ HB hb); clear BK282 HB; obtain ⟨BK282, HB⟩ := n_; (try clear hb); (try clear hb2); (try clear hk); (try clear hi); obtain ⟨hcz10_0, hcz10_1, hfz10_0, hfz10_1⟩ := cz2_ BK282) | (go_at_call 104; (with_reducible refine (dbm_some_1.calls gb282 a0_0 A0_1 c0_1 l0_1 _ _ l1 t284 _ ?sideb ?side3 ?side4 A6.out).mono ?_); (case sideb => exact (bk_ BK282.out)); (case side3 => exact sd_ (Kd.C_below HR1.out HB.out)); (case side4 => exact HC1.out); rintro e w11 ⟨rfl, hb⟩; have n_ := a_ (bb_ BK282 hb) (bs_ HB hb); clear BK282 HB; obtain ⟨BK282, HB⟩ := n_; (try clear hb); (try clear hb2); (try clear hk); (try clear hi)))
  go_ret
  exact ⟨by first | rfl | (simp [errW_none, errW_some] <;> rfl) | (simp [*, errW_none, errW_some] <;> rfl), HB_⟩
/-! ### dbm_Bound: function 47 -/
def dbm_Bound.f (k : Nat) (a0_0 : Int) (l0_1 : List Int) (a1 : Int) (a2 : Int) : Option (Int × Bool) := (dbm_some.f k a0_0 l0_1 (([a1, a2] : List Int))).bind fun t289 => (if t289 = true then ((dbm_grid_at.f a0_0 l0_1 a1 a2).bind fun t290 => (if 0 ≤ t290 then (if t290 < (l0_1.length : Int) then (some (rd l0_1 t290, true)) else (none)) else (none))) else (some (0, false)))
theorem dbm_Bound.mono : ∀ a0 a1 a2 a3 k, LeO (dbm_Bound.f k a0 a1 a2 a3) (dbm_Bound.f (k + 1) a0 a1 a2 a3) := by
  intro a0 a1 a2 a3 k
  unfold dbm_Bound.f
  repeat' first
      | (with_reducible exact dbm_some.mono _ _ _ _)
      | (with_reducible exact LeO.refl _)
      | (with_reducible exact LeO.none _)
      | (with_reducible refine LeO.ite ?_ ?_)
      | (with_reducible refine LeO.bind ?_ (fun _ => ?_))
      | exact dbm_some.mono _ _ _ _
      | exact LeO.none _
      | refine LeO.ite ?_ ?_
      | refine LeO.bind ?_ (fun _ => ?_)
def dbm_Bound.T3 : Bool × List (List Nat × List Nat) := (true, [([], []), ([0], [0]), ([], []), ([2], [2]), ([], []), ([4], [4]), ([3, 5], [3, 5]), ([], []), ([], []), ([6, 7, 8], [6, 7, 8]), ([1, 9], [1, 9]), ([10], [10]), ([11, 9, 0, 1, 2, 3, 4, 5, 6, 7, 8, 9, 10, 11], [11]), ([12, 0, 1, 2, 3, 4, 5, 6, 7, 8, 9, 10, 11, 12], [])])
def dbm_Bound.B3 : List Nat := [0, 1, 0, 4, 0, 16, 60, 0, 0, 508, 1023, 2047, 4095, 8191]
theorem dbm_Bound.tab3 : rtab .any (opsOf Try.f47 3) = dbm_Bound.T3 := by kernel_rfl
theorem dbm_Bound.bits3 : waitsOk dbm_Bound.T3.2 dbm_Bound.B3 = true := by kernel_rfl
set_option maxHeartbeats 8000000 in
set_option maxRecDepth 100000 in
theorem dbm_Bound.calls (k : Nat) (a0_0 : Int) (A0_1 : Option Addr) (c0_1 : Nat) (l0_1 : List Int) (a1 : Int) (a2 : Int) (r1 : Int) (r2 : Bool) (w : World) (hr0_1 : Kd.C (Kd.int .i64) w A0_1 l0_1.length l0_1) (hc0_1 : l0_1.length ≤ c0_1) (h : dbm_Bound.f k a0_0 l0_1 a1 a2 = some (r1, r2)) :
    Calls Try.prog 47 #[.agg #[.int .i64 a0_0, .slice A0_1 l0_1.length c0_1], .int .i64 a1, .int .i64 a2] w fun e w' => e = .returned (.tuple #[.int .i64 r1, .bool r2]) ∧ Below w.heap.size w w' := by
  have hu24 := Try.underlying24
  have hu94 := Try.underlying94
  have HR0_1 := Aside0.mk hr0_1
  have HC0_1 := Aside0.mk hc0_1
  clear hr0_1 hc0_1
  have HB := Aside0.mk (Below.refl w.heap.size w)
  have H : ((dbm_some.f k a0_0 l0_1 (([a1, a2] : List Int))).bind fun t289 => (if t289 = true then ((dbm_grid_at.f a0_0 l0_1 a1 a2).bind fun t290 => (if 0 ≤ t290 then (if t290 < (l0_1.length : Int) then (some (rd l0_1 t290, true)) else (none)) else (none))) else (some (0, false)))) = some (r1, r2) := h
  clear h
  obtain ⟨y286, hy286⟩ : ∃ y_ : List Int, y_ = (([a1, a2] : List Int)) := ⟨_, rfl⟩
  replace H : ((dbm_some.f k a0_0 l0_1 y286).bind fun t289 => (if t289 = true then ((dbm_grid_at.f a0_0 l0_1 a1 a2).bind fun t290 => (if 0 ≤ t290 then (if t290 < (l0_1.length : Int) then (some (rd l0_1 t290, true)) else (none)) else (none))) else (some (0, false)))) = some (r1, r2) := by first | (rw [hy286]; with_reducible exact H) | (have H2_ := (Option.bind_some _ _).symm.trans H; rw [hy286]; with_reducible exact H2_) | (have H2_ := (Option.bind_some _ _).symm.trans H; with_reducible exact H2_) | with_reducible exact H | (rw [hy286]; exact H) | exact H
  have Ny286 := Aside0.mk hy286
  clear hy286
  replace H := Option.bind_eq_some_iff.mp H
  obtain ⟨t289, A40, H⟩ := H
  replace H : (if t289 = true then ((dbm_grid_at.f a0_0 l0_1 a1 a2).bind fun t290 => (if 0 ≤ t290 then (if t290 < (l0_1.length : Int) then (some (rd l0_1 t290, true)) else (none)) else (none))) else (some (0, false))) = some (r1, r2) := H
  have A4 := Aside0.mk A40
  clear A40
  by_cases c5 : t289 = true
  rotate_left
  · replace c5 := Bool.eq_false_iff.mpr c5
    subst c5
    have H1 : (some (0, false)) = some (r1, r2) := by rw [if_neg (show ¬ (false = true) by decide)] at H; exact H
    clear H
    have H := H1
    clear H1
    simp only [Option.some.injEq, Prod.mk.injEq] at H
    obtain ⟨rfl, rfl⟩ := H
    go_enter Try.func47, Try.ntmps47
    go_wp2_with (first | ((with_reducible refine gate_dst (N := 3) rfl ?_); refine bx_ (N := 3) (cs := #[.int .i64 a0_0, .slice A0_1 l0_1.length c0_1]) (t := 24) ?_; intro gb285 hg w17 hbox hb; have n_ := a_ (bs_ HB hb) (a_ (Aside0.mk hbox) (a_ (gs_ HB hg) (gs_ HB hg))); clear HB; obtain ⟨HB, BK285, GW285, GE285⟩ := n_; clear hb hbox hg; obtain ⟨hcz18_0, hcz18_1, hfz18_0, hfz18_1⟩ := cz2_ BK285) | ((with_reducible refine gate_dst (N := 11) rfl ?_); refine Kd.R_lit (Kd.int .i64) _ 3 ?hg (N := 11) ?hd (xs := ([a1, a2] : List Int)) (inner := [.int .i64 a1, .int .i64 a2]) (ok := fun _ => True) (okp := fun _ => True) ?hr ?hp (fun _ hk => hk) trivial (Below.refl _ _) (Nat.le_refl _) (by simp) ?_; (case hd => rfl); (case hg => rfl); (case hr => first | (go_simp; done) | (go_simp; rfl)); (case hp => exact (Reps.one (show Kd.M (Kd.int .i64) _ _ _ a1 [.int .i64 a1] from rfl) (Reps.one (show Kd.M (Kd.int .i64) _ _ _ a2 [.int .i64 a2] from rfl) (Reps.none _ _)))); intro v287 w19 ho20 hb hg_ hnew_; clear hg_ hnew_; (first | rw [← Ny286.out] at ho20 | (simp only [Int.reduceToNat] at ho20; rw [← Ny286.out] at ho20)); have n_ := a_ (Aside0.mk (Kd.R_lower ho20 (below_size HB_))) (a_ (bb_ BK285 hb) (bs_ HB hb)); clear BK285 HB; obtain ⟨HO288, BK285, HB⟩ := n_; clear hb ho20; obtain ⟨Ao21, co21, eo21⟩ := Kd.R_slice HO288.out; subst eo21) | ((with_reducible refine gate_callee (f := 83) rfl ?_); refine goesL_ (some 12) rfl rfl Try.func83 (by kernel_rfl) rfl #[.agg #[.int .i64 a0_0, .slice A0_1 l0_1.length c0_1], .slice Ao21 y286.length co21] rfl MP_ ?_; (with_reducible refine (dbm_some.calls k a0_0 _ _ l0_1 _ _ y286 false _ ?side1 ?side2 ?side3 ?side4 A4.out).mono ?_); (case side1 => exact sd_ (Kd.C_below HR0_1.out HB.out)); (case side2 => exact HC0_1.out); (case side3 => repeat (first | exact (Kd.R_reads' HO288.out).2.2 | (with_reducible refine Kd.C_alloc ?_ _) | (with_reducible refine Kd.C_drewN ?_ _) | (with_reducible refine Kd.C_drew ?_))); (case side4 => exact (Kd.R_reads' HO288.out).2.1); rintro e w22 ⟨rfl, hb⟩; refine ⟨_, rfl, ?_⟩; have n_ := a_ (rb_ HO288 hb) (a_ (bb_ BK285 hb) (bs_ HB hb)); clear HO288 BK285 HB; obtain ⟨HO288, BK285, HB⟩ := n_; (try clear hb); (try clear hb2); (try clear hk); (try clear hi)))
    go_ret2
    exact ⟨by first | rfl | (simp [errW_none, errW_some] <;> rfl) | (simp [*, errW_none, errW_some] <;> rfl), HB_⟩

  subst c5
  have H1 : ((dbm_grid_at.f a0_0 l0_1 a1 a2).bind fun t290 => (if 0 ≤ t290 then (if t290 < (l0_1.length : Int) then (some (rd l0_1 t290, true)) else (none)) else (none))) = some (r1, r2) := by rw [if_pos rfl] at H; exact H
  clear H
  have H := H1
  clear H1
  replace H := Option.bind_eq_some_iff.mp H
  obtain ⟨t290, A60, H⟩ := H
  replace H : (if 0 ≤ t290 then (if t290 < (l0_1.length : Int) then (some (rd l0_1 t290, true)) else (none)) else (none)) = some (r1, r2) := H
  have A6 := Aside0.mk A60
  clear A60
  replace H := yes_ H
  obtain ⟨c7, H⟩ := H
  have c7b0 : decide (0 ≤ t290) = true := decide_eq_true c7
  clear c7
  replace H := yes_ H
  obtain ⟨c8, H⟩ := H
  have c8b0 : decide (t290 < (l0_1.length : Int)) = true := decide_eq_true c8
  clear c8
  simp only [Option.some.injEq, Prod.mk.injEq] at H
  obtain ⟨rfl, rfl⟩ := H
  go_enter Try.func47, Try.ntmps47
  try go_wp2_with (first | ((with_reducible refine gate_dst (N := 3) rfl ?_); refine bx_ (N := 3) (cs := #[.int .i64 a0_0, .slice A0_1 l0_1.length c0_1]) (t := 24) ?_; intro gb285 hg w9 hbox hb; have n_ := a_ (bs_ HB hb) (a_ (Aside0.mk hbox) (a_ (gs_ HB hg) (gs_ HB hg))); clear HB; obtain ⟨HB, BK285, GW285, GE285⟩ := n_; clear hb hbox hg; obtain ⟨hcz10_0, hcz10_1, hfz10_0, hfz10_1⟩ := cz2_ BK285) | ((with_reducible refine gate_dst (N := 11) rfl ?_); refine Kd.R_lit (Kd.int .i64) _ 3 ?hg (N := 11) ?hd (xs := ([a1, a2] : List Int)) (inner := [.int .i64 a1, .int .i64 a2]) (ok := fun _ => True) (okp := fun _ => True) ?hr ?hp (fun _ hk => hk) trivial (Below.refl _ _) (Nat.le_refl _) (by simp) ?_; (case hd => rfl); (case hg => rfl); (case hr => first | (go_simp; done) | (go_simp; rfl)); (case hp => exact (Reps.one (show Kd.M (Kd.int .i64) _ _ _ a1 [.int .i64 a1] from rfl) (Reps.one (show Kd.M (Kd.int .i64) _ _ _ a2 [.int .i64 a2] from rfl) (Reps.none _ _)))); intro v287 w11 ho12 hb hg_ hnew_; clear hg_ hnew_; (first | rw [← Ny286.out] at ho12 | (simp only [Int.reduceToNat] at ho12; rw [← Ny286.out] at ho12)); have n_ := a_ (Aside0.mk (Kd.R_lower ho12 (below_size HB_))) (a_ (bb_ BK285 hb) (bs_ HB hb)); clear BK285 HB; obtain ⟨HO288, BK285, HB⟩ := n_; clear hb ho12; obtain ⟨Ao13, co13, eo13⟩ := Kd.R_slice HO288.out; subst eo13) | ((with_reducible refine gate_callee (f := 83) rfl ?_); refine goesL_ (some 12) rfl rfl Try.func83 (by kernel_rfl) rfl #[.agg #[.int .i64 a0_0, .slice A0_1 l0_1.length c0_1], .slice Ao13 y286.length co13] rfl MP_ ?_; (with_reducible refine (dbm_some.calls k a0_0 _ _ l0_1 _ _ y286 true _ ?side1 ?side2 ?side3 ?side4 A4.out).mono ?_); (case side1 => exact sd_ (Kd.C_below HR0_1.out HB.out)); (case side2 => exact HC0_1.out); (case side3 => repeat (first | exact (Kd.R_reads' HO288.out).2.2 | (with_reducible refine Kd.C_alloc ?_ _) | (with_reducible refine Kd.C_drewN ?_ _) | (with_reducible refine Kd.C_drew ?_))); (case side4 => exact (Kd.R_reads' HO288.out).2.1); rintro e w14 ⟨rfl, hb⟩; refine ⟨_, rfl, ?_⟩; have n_ := a_ (rb_ HO288 hb) (a_ (bb_ BK285 hb) (bs_ HB hb)); clear HO288 BK285 HB; obtain ⟨HO288, BK285, HB⟩ := n_; (try clear hb); (try clear hb2); (try clear hk); (try clear hi)))
  first | (obtain ⟨w14, hq_⟩ : ∃ x, x = w14.drewN nd := ⟨_, rfl⟩; rw [← hq_]; have q0_ := Aside0.mk (Kd.R_drewN HO288.out nd); rw [← hq_] at q0_; have q1_ := Aside0.mk (blk_drewN BK285.out nd); rw [← hq_] at q1_; have q2_ := Aside0.mk (pw_below_drewN HB.out nd); rw [← hq_] at q2_; clear HO288; clear BK285; clear HB; have HO288 := q0_; have BK285 := q1_; have HB := q2_; clear hq_ q0_ q1_ q2_) | skip
  have n_ := a_ (Aside0.mk (Kd.R_drew HO288.out)) (a_ (Aside0.mk (blk_drew BK285.out)) (Aside0.mk (below_drew1 HB.out)))
  clear HO288 BK285 HB
  obtain ⟨HO288, BK285, HB⟩ := n_
  have p291 : 0 ≤ (t290 : Int) := of_decide_eq_true (by first | (with_reducible assumption) | assumption)
  have q291 : t290 < (l0_1.length : Int) := of_decide_eq_true (by first | (with_reducible assumption) | assumption)
  obtain ⟨ad291, e291, hx291_0⟩ := Kd.at_int HR0_1.out t290 p291 q291
  have hw291_0 := hx291_0
  cases e291
  first | (replace hx291_0 := (HB.out.cell (World.block_lt_of_cell? w _ hx291_0)).trans hx291_0) | skip
  replace p291 := eq_true p291
  replace q291 := eq_true q291
  refine start_ (n := 14) (S := fun w' => w'.cell? ⟨gb285, 0, none⟩ = some (.int .i64 a0_0) ∧ w'.cell? ⟨gb285, 1, none⟩ = some (.slice (some ad291) l0_1.length c0_1) ∧ w'.cell? (ad291.add (t290).toNat) = some (.int .i64 (rd l0_1 t290))) (ds := []) #[false, false, false, false, false, false, false, false, false, false, false, false, false, false] (by kernel_rfl) rfl rfl ⟨(blk_cell BK285.out 0).trans rfl, (blk_cell BK285.out 1).trans rfl, ((HB.out.cell (World.block_lt_of_cell? w _ hw291_0)).trans hw291_0)⟩ (fun hHeld => ?_); refine with_tabW dbm_Bound.tab3 dbm_Bound.bits3 (fun HT_ HW_ => ?_)
  generalize w14.drew = w15 at HO288 BK285 HB hx291_0 hHeld ⊢
  refine pu_ 0 (some 14) ?_
  refine pu_ 2 (some 16) ?_
  refine pu_ 4 (some 18) ?_
  refine pu_ 7 (some 21) ?_
  refine pu_ 8 (some 22) ?_
  refine take_ (i := 1) (N := some 15) (v := ?_) (a' := ?_) #[true, true, true, false, true, false, false, true, true, false, false, false, false, false] rfl rfl (take_ofW HT_.out HW_.out (by kernel_rfl)) (fun _ _ _ h => h) (Or.inl ⟨by rfl, ?_⟩) hHeld ?_ ?_
  rotate_left
  · rintro w' ⟨s0, s1, s2⟩
    go_simp
    with_reducible rfl
  rotate_left
  · exact AP_
  refine take_ (i := 3) (N := some 17) (v := ?_) (a' := ?_) #[true, true, true, true, true, false, false, true, true, false, false, false, false, false] rfl rfl (take_ofW HT_.out HW_.out (by kernel_rfl)) (fun _ _ _ h => h) (Or.inl ⟨by rfl, ?_⟩) hHeld ?_ ?_
  rotate_left
  · rintro w' ⟨s0, s1, s2⟩
    go_simp
    with_reducible rfl
  rotate_left
  · exact AP_
  refine take_ (i := 5) (N := some 19) (v := ?_) (a' := ?_) #[true, true, true, true, true, true, false, true, true, false, false, false, false, false] rfl rfl (take_ofW HT_.out HW_.out (by kernel_rfl)) (fun _ _ _ h => h) (Or.inl ⟨by rfl, ?_⟩) hHeld ?_ ?_
  rotate_left
  · rintro w' ⟨s0, s1, s2⟩
    go_simp
    with_reducible rfl
  rotate_left
  · exact AP_
  refine pu_ 6 (some 20) ?_
  refine on_ 9 (some 23) (fun K hK => ?_)
  refine goes_ Try.func86 (by kernel_rfl) rfl #[.agg #[.int .i64 a0_0, .slice (some ad291) l0_1.length c0_1], .int .i64 a1, .int .i64 a2] (by rfl) rfl rfl MP_ ?_
  with_reducible refine (dbm_grid_at.calls a0_0 _ _ l0_1 a1 a2 t290 _ ?side1 ?side2 A6.out).mono ?_
  (case side1 => exact sd_ (Kd.C_below HR0_1.out HB.out))
  (case side2 => exact HC0_1.out)
  rintro e w16 ⟨rfl, hb⟩
  refine ⟨_, rfl, ?_⟩
  have n_ := a_ (rb_ HO288 hb) (a_ (bb_ BK285 hb) (bs_ HB hb))
  clear HO288 BK285 HB
  obtain ⟨HO288, BK285, HB⟩ := n_
  (try clear hb)
  (try clear hb2)
  (try clear hk)
  (try clear hi)
  refine hK.out _ _ ⟨(blk_cell BK285.out 0).trans rfl, (blk_cell BK285.out 1).trans rfl, ((HB.out.cell (World.block_lt_of_cell? w _ hw291_0)).trans hw291_0)⟩ (fun hHeld => ?_)
  clear hK K
  refine nm_ ?_
  refine pu_ 10 (some 24) ?_
  refine take_ (i := 11) (N := some 25) (v := ?_) (a' := ?_) #[true, true, true, true, true, true, true, true, true, true, true, true, false, false] rfl rfl (take_ofW HT_.out HW_.out (by kernel_rfl)) (fun _ _ _ h => h) (Or.inl ⟨by rfl, ?_⟩) hHeld ?_ ?_
  rotate_left
  · rintro w' ⟨s0, s1, s2⟩
    go_simp
    with_reducible rfl
  rotate_left
  · exact AP_
  refine pu_ 12 (some 6) ?_
  refine pu_ 13 (some 7) ?_
  refine done_ (done_of HT_.out (by kernel_rfl)) ?_
  try go_wp2
  go_ret2
  exact ⟨by first | rfl | (simp [errW_none, errW_some] <;> rfl) | (simp [*, errW_none, errW_some] <;> rfl), HB_⟩
end Go.Proofs.Ytgeemdpflcefkaa.Z
