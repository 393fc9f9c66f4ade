-- WRITTEN BY this session's program wip/ext.py, in print.py's manner
import Derived.Test.YtgeemdpflcefkaaZx0
import Derived.Test.YtgeemdpflcefkaaZx3
import Derived.Test.YtgeemdpflcefkaaZx8
import Derived.Test.YtgeemdpflcefkaaZx20
import Derived.Test.YtgeemdpflcefkaaZx23
namespace Go.Proofs.Ytgeemdpflcefkaa.Z
open Go.RowKit Go.Proofs.YtgeemdpflcefkaaW.PrintWords Go.Proofs.YtgeemdpflcefkaaW.PrintLast Go.Proofs.YtgeemdpflcefkaaW.PrintMore
attribute [local go_sem] max2_int min2_int max_two min_two max_three min_three max_four min_four   -- for this text's walks alone
set_option linter.unusedVariables false
set_option linter.unusedSimpArgs false

/-! ### zone_both_v2: function 77 -/
def zone_both_v2.j0 : Nat → Bool → Bool → Int → List Int → Int → List Int → Option (Int × List Int × Int)
  | 0, _, _, _, _, _, _ => none
  | k + 1, x2, x19, x249000, x249001, x250000, x250001 => if x19 = true then ((zone_mixed_v2.f k x249000 x249001 x250000 x250001).bind fun bt252 => (some (bt252.1, bt252.2, 0))) else (if x2 = true then (if (x249001.length : Int) = 0 then ((slices_Clone_int_int.f x250001).bind fun t256 => (some (x250000, t256, 0))) else ((slices_Clone_int_int.f x249001).bind fun t259 => (some (x249000, t259, 0)))) else ((zone_empty.f x249000 x249001).bind fun bt262 => (some (bt262.1, bt262.2, 0))))
def zone_both_v2.f (k : Nat) (a0_0 : Int) (l0_1 : List Int) (a1_0 : Int) (l1_1 : List Int) (a2 : Bool) : Option (Int × List Int × Int) := (zone_two.f k a0_0 l0_1 a1_0 l1_1).bind fun t251 => (if t251 = 0 then (if (l0_1.length : Int) > 0 then (zone_both_v2.j0 k a2 (decide ((l1_1.length : Int) > 0)) a0_0 l0_1 a1_0 l1_1) else (zone_both_v2.j0 k a2 false a0_0 l0_1 a1_0 l1_1)) else (some (0, ([] : List Int), t251)))
theorem zone_both_v2.mono_l : ∀ k, (∀ y0 y1 y2 y3 y4 y5, LeO (zone_both_v2.j0 k y0 y1 y2 y3 y4 y5) (zone_both_v2.j0 (k + 1) y0 y1 y2 y3 y4 y5))
  | 0 => fun _ _ _ _ _ _ r h => by simp [zone_both_v2.j0] at h
  | k + 1 => by
    have ih0 := zone_both_v2.mono_l k
    · intro y0 y1 y2 y3 y4 y5
      unfold zone_both_v2.j0
      repeat' first
      | (with_reducible exact ih0 _ _ _ _ _ _)
      | (with_reducible exact zone_mixed_v2.mono _ _ _ _ _)
      | (with_reducible exact zone_two.mono _ _ _ _ _)
      | (with_reducible exact LeO.refl _)
      | (with_reducible exact LeO.none _)
      | (with_reducible refine LeO.ite ?_ ?_)
      | (with_reducible refine LeO.bind ?_ (fun _ => ?_))
      | exact ih0 _ _ _ _ _ _
      | exact zone_mixed_v2.mono _ _ _ _ _
      | exact zone_two.mono _ _ _ _ _
      | exact LeO.none _
      | refine LeO.ite ?_ ?_
      | refine LeO.bind ?_ (fun _ => ?_)
theorem zone_both_v2.mono : ∀ a0 a1 a2 a3 a4 k, LeO (zone_both_v2.f k a0 a1 a2 a3 a4) (zone_both_v2.f (k + 1) a0 a1 a2 a3 a4) := by
  intro a0 a1 a2 a3 a4 k
  have ih0 := zone_both_v2.mono_l k
  unfold zone_both_v2.f
  repeat' first
      | (with_reducible exact ih0 _ _ _ _ _ _)
      | (with_reducible exact zone_mixed_v2.mono _ _ _ _ _)
      | (with_reducible exact zone_two.mono _ _ _ _ _)
      | (with_reducible exact LeO.refl _)
      | (with_reducible exact LeO.none _)
      | (with_reducible refine LeO.ite ?_ ?_)
      | (with_reducible refine LeO.bind ?_ (fun _ => ?_))
      | exact ih0 _ _ _ _ _ _
      | exact zone_mixed_v2.mono _ _ _ _ _
      | exact zone_two.mono _ _ _ _ _
      | exact LeO.none _
      | refine LeO.ite ?_ ?_
      | refine LeO.bind ?_ (fun _ => ?_)
def zone_both_v2.T10 : Bool × List (List Nat × List Nat) := (true, [([], []), ([0], [0]), ([], []), ([2], [2]), ([3], [3]), ([1, 4], [1, 4]), ([5, 4, 0, 1, 2, 3, 4, 5], [5]), ([6, 0, 1, 2, 3, 4, 5, 6], [])])
def zone_both_v2.B10 : List Nat := [0, 1, 0, 4, 12, 31, 63, 127]
theorem zone_both_v2.tab10 : rtab .any (opsOf Try.f77 10) = zone_both_v2.T10 := by kernel_rfl
theorem zone_both_v2.bits10 : waitsOk zone_both_v2.T10.2 zone_both_v2.B10 = true := by kernel_rfl
set_option maxHeartbeats 8000000 in
set_option maxRecDepth 100000 in
theorem zone_both_v2.calls (k : Nat) (a0_0 : Int) (A0_1 : Option Addr) (c0_1 : Nat) (l0_1 : List Int) (a1_0 : Int) (A1_1 : Option Addr) (c1_1 : Nat) (l1_1 : List Int) (a2 : Bool) (r1 : Int) (r2 : List Int) (r3 : Int) (w : World) (hr0_1 : Kd.C (Kd.int .i64) w A0_1 l0_1.length l0_1) (hc0_1 : l0_1.length ≤ c0_1) (hr1_1 : Kd.C (Kd.int .i64) w A1_1 l1_1.length l1_1) (hc1_1 : l1_1.length ≤ c1_1) (h : zone_both_v2.f k a0_0 l0_1 a1_0 l1_1 a2 = some (r1, r2, r3)) :
    Calls Try.prog 77 #[.agg #[.int .i64 a0_0, .slice A0_1 l0_1.length c0_1], .agg #[.int .i64 a1_0, .slice A1_1 l1_1.length c1_1], .bool a2, .func (.func 82) #[] #[]] w fun e w' => ∃ v1_ : Value, e = .returned (.tuple #[.agg #[.int .i64 r1, v1_], .int .i64 r3]) ∧ Kd.R (Kd.int .i64) 3 w' w.heap.size (fun _ => True) v1_ r2 ∧ Below w.heap.size w w' := by
  have hu24 := Try.underlying24
  have HR0_1 := Aside0.mk hr0_1
  have HC0_1 := Aside0.mk hc0_1
  clear hr0_1 hc0_1
  have HR1_1 := Aside0.mk hr1_1
  have HC1_1 := Aside0.mk hc1_1
  clear hr1_1 hc1_1
  have HB := Aside0.mk (Below.refl w.heap.size w)
  have H : ((zone_two.f k a0_0 l0_1 a1_0 l1_1).bind fun t251 => (if t251 = 0 then (if (l0_1.length : Int) > 0 then (zone_both_v2.j0 k a2 (decide ((l1_1.length : Int) > 0)) a0_0 l0_1 a1_0 l1_1) else (zone_both_v2.j0 k a2 false a0_0 l0_1 a1_0 l1_1)) else (some (0, ([] : List Int), t251)))) = some (r1, r2, r3) := h
  clear h
  replace H := Option.bind_eq_some_iff.mp H
  obtain ⟨t251, A40, H⟩ := H
  replace H : (if t251 = 0 then (if (l0_1.length : Int) > 0 then (zone_both_v2.j0 k a2 (decide ((l1_1.length : Int) > 0)) a0_0 l0_1 a1_0 l1_1) else (zone_both_v2.j0 k a2 false a0_0 l0_1 a1_0 l1_1)) else (some (0, ([] : List Int), t251))) = some (r1, r2, r3) := H
  have A4 := Aside0.mk A40
  clear A40
  by_cases c5 : t251 = 0
  rotate_left
  · rw [if_neg c5] at H
    have c5b0 : (t251 == 0) = false := beq_eq_false_iff_ne.mpr c5
    have c5b1 : (t251 != 0) = true := bne_iff_ne.mpr c5
    simp only [Option.some.injEq, Prod.mk.injEq] at H
    obtain ⟨rfl, rfl, rfl⟩ := H
    go_enter Try.func77, Try.ntmps77
    go_wp2_with (first | ((with_reducible refine gate_dst (N := 4) rfl ?_); (try (refine gate_guard (by rfl) ?_; dsimp only)); refine bx_ (N := 4) (cs := #[.int .i64 a0_0, .slice A0_1 l0_1.length c0_1]) (t := 24) ?_; intro gb248 hg w66 hbox hb; have n_ := a_ (bs_ HB hb) (a_ (Aside0.mk hbox) (a_ (gs_ HB hg) (gs_ HB hg))); clear HB; obtain ⟨HB, BK248, GW248, GE248⟩ := n_; clear hb hbox hg) | ((with_reducible refine gate_dst (N := 5) rfl ?_); (try (refine gate_guard (by rfl) ?_; dsimp only)); refine bx_ (N := 5) (cs := #[.int .i64 a1_0, .slice A1_1 l1_1.length c1_1]) (t := 24) ?_; intro gb249 hg w67 hbox hb; have n_ := a_ (bb_ BK248 hb) (a_ (bs_ HB hb) (a_ (Aside0.mk hbox) (a_ (gs_ HB hg) (a_ (gs_ HB hg) (a_ (nl_ BK248 hg) (ng_ BK248 hg)))))); clear BK248 HB; obtain ⟨BK248, HB, BK249, GW249, GE249, NB248_249, NB249_248⟩ := n_; clear hb hbox hg) | ((with_reducible refine gate_dst (N := 8) rfl ?_); (try (refine gate_guard (by rfl) ?_; dsimp only)); refine bx_ (N := 8) (cs := #[.int .i64 0, .slice none 0 0]) (t := 24) ?_; intro gb250 hg w68 hbox hb; have n_ := a_ (bb_ BK248 hb) (a_ (bb_ BK249 hb) (a_ (bs_ HB hb) (a_ (Aside0.mk hbox) (a_ (gs_ HB hg) (a_ (gs_ HB hg) (a_ (nl_ BK248 hg) (a_ (ng_ BK248 hg) (a_ (nl_ BK249 hg) (ng_ BK249 hg))))))))); clear BK248 BK249 HB; obtain ⟨BK248, BK249, HB, BK250, GW250, GE250, NB248_250, NB250_248, NB249_250, NB250_249⟩ := n_; clear hb hbox hg; have hnb69 := NB248_249.out; have hnc69 := NB249_248.out; have hnb70 := NB248_250.out; have hnc70 := NB250_248.out; obtain ⟨hcz71_0, hcz71_1, hfz71_0, hfz71_1⟩ := cz2_ BK248; have hnb72 := NB249_250.out; have hnc72 := NB250_249.out; obtain ⟨hcz73_0, hcz73_1, hfz73_0, hfz73_1⟩ := cz2_ BK249) | ((with_reducible refine gate_callee (f := 79) rfl ?_); refine goesL_ (some 13) rfl rfl Try.func79 (by kernel_rfl) rfl #[.agg #[.int .i64 a0_0, .slice A0_1 l0_1.length c0_1], .agg #[.int .i64 a1_0, .slice A1_1 l1_1.length c1_1]] rfl MP_ ?_; (with_reducible refine (zone_two.calls k a0_0 _ _ l0_1 a1_0 _ _ l1_1 t251 _ ?side1 ?side2 ?side3 ?side4 A4.out).mono ?_); (case side1 => exact sd_ (Kd.C_below HR0_1.out HB.out)); (case side2 => exact HC0_1.out); (case side3 => exact sd_ (Kd.C_below HR1_1.out HB.out)); (case side4 => exact HC1_1.out); rintro e w74 ⟨rfl, hb⟩; refine ⟨_, rfl, ?_⟩; have n_ := a_ (bb_ BK248 hb) (a_ (bb_ BK249 hb) (a_ (bb_ BK250 hb) (bs_ HB hb))); clear BK248 BK249 BK250 HB; obtain ⟨BK248, BK249, BK250, HB⟩ := n_; (try clear hb); (try clear hb2); (try clear hk); (try clear hi); obtain ⟨hcz75_0, hcz75_1, hfz75_0, hfz75_1⟩ := cz2_ BK250))
    refine bodyPost_ret (results_ct rfl _ _ gb250 24 #[.int .i64 0, .slice none 0 0] (0, 0) _ rfl (bk2_ BK250.out) Try.underlying24 rfl (by kernel_rfl)) rfl ?_
    exact ⟨_, by first | rfl | (simp [errW_none, errW_some] <;> rfl) | (simp [*, errW_none, errW_some] <;> rfl), by first | exact Kd.R_nil _ _ _ _ _ | exact Kd.N_nil _ _ _ _ _ | exact Kd.V_nil _ _ _ _ _ | exact Kd.Q_nil _ _ _ _ _ | exact Kd.S_nil _ _ _ _ _, HB_⟩

  rw [if_pos c5] at H
  have c5b0 : (t251 == 0) = true := beq_iff_eq.mpr c5
  have c5b1 : (t251 != 0) = false := bne_eq_false_iff_eq.mpr c5
  clear c5
  have HC6 := Aside0.mk H
  clear H
  go_enter Try.func77, Try.ntmps77
  go_upto_region 4 with (first | ((with_reducible refine gate_dst (N := 4) rfl ?_); (try (refine gate_guard (by rfl) ?_; dsimp only)); refine bx_ (N := 4) (cs := #[.int .i64 a0_0, .slice A0_1 l0_1.length c0_1]) (t := 24) ?_; intro gb248 hg w7 hbox hb; have n_ := a_ (bs_ HB hb) (a_ (Aside0.mk hbox) (a_ (gs_ HB hg) (gs_ HB hg))); clear HB; obtain ⟨HB, BK248, GW248, GE248⟩ := n_; clear hb hbox hg) | ((with_reducible refine gate_dst (N := 5) rfl ?_); (try (refine gate_guard (by rfl) ?_; dsimp only)); refine bx_ (N := 5) (cs := #[.int .i64 a1_0, .slice A1_1 l1_1.length c1_1]) (t := 24) ?_; intro gb249 hg w8 hbox hb; have n_ := a_ (bb_ BK248 hb) (a_ (bs_ HB hb) (a_ (Aside0.mk hbox) (a_ (gs_ HB hg) (a_ (gs_ HB hg) (a_ (nl_ BK248 hg) (ng_ BK248 hg)))))); clear BK248 HB; obtain ⟨BK248, HB, BK249, GW249, GE249, NB248_249, NB249_248⟩ := n_; clear hb hbox hg) | ((with_reducible refine gate_dst (N := 8) rfl ?_); (try (refine gate_guard (by rfl) ?_; dsimp only)); refine bx_ (N := 8) (cs := #[.int .i64 0, .slice none 0 0]) (t := 24) ?_; intro gb250 hg w9 hbox hb; have n_ := a_ (bb_ BK248 hb) (a_ (bb_ BK249 hb) (a_ (bs_ HB hb) (a_ (Aside0.mk hbox) (a_ (gs_ HB hg) (a_ (gs_ HB hg) (a_ (nl_ BK248 hg) (a_ (ng_ BK248 hg) (a_ (nl_ BK249 hg) (ng_ BK249 hg))))))))); clear BK248 BK249 HB; obtain ⟨BK248, BK249, HB, BK250, GW250, GE250, NB248_250, NB250_248, NB249_250, NB250_249⟩ := n_; clear hb hbox hg; have hnb10 := NB248_249.out; have hnc10 := NB249_248.out; have hnb11 := NB248_250.out; have hnc11 := NB250_248.out; obtain ⟨hcz12_0, hcz12_1, hfz12_0, hfz12_1⟩ := cz2_ BK248; have hnb13 := NB249_250.out; have hnc13 := NB250_249.out; obtain ⟨hcz14_0, hcz14_1, hfz14_0, hfz14_1⟩ := cz2_ BK249) | ((with_reducible refine gate_callee (f := 79) rfl ?_); refine goesL_ (some 13) rfl rfl Try.func79 (by kernel_rfl) rfl #[.agg #[.int .i64 a0_0, .slice A0_1 l0_1.length c0_1], .agg #[.int .i64 a1_0, .slice A1_1 l1_1.length c1_1]] rfl MP_ ?_; (with_reducible refine (zone_two.calls k a0_0 _ _ l0_1 a1_0 _ _ l1_1 t251 _ ?side1 ?side2 ?side3 ?side4 A4.out).mono ?_); (case side1 => exact sd_ (Kd.C_below HR0_1.out HB.out)); (case side2 => exact HC0_1.out); (case side3 => exact sd_ (Kd.C_below HR1_1.out HB.out)); (case side4 => exact HC1_1.out); rintro e w15 ⟨rfl, hb⟩; refine ⟨_, rfl, ?_⟩; have n_ := a_ (bb_ BK248 hb) (a_ (bb_ BK249 hb) (a_ (bb_ BK250 hb) (bs_ HB hb))); clear BK248 BK249 BK250 HB; obtain ⟨BK248, BK249, BK250, HB⟩ := n_; (try clear hb); (try clear hb2); (try clear hk); (try clear hi)))
  (try simp only [Act.put, List.setIfInBounds_toArray, List.set_cons_zero, List.set_cons_succ])
  go_cut [19] (fun v19 wc => ∃ (kq : Nat) (x19_5 : Bool), v19 = .bool x19_5 ∧ Aside0 (zone_both_v2.j0 kq a2 x19_5 a0_0 l0_1 a1_0 l1_1 = some (r1, r2, r3)) ∧ Aside0 (kq ≤ k) ∧ Aside0 (wc.heap[gb248]? = some (.cells #[.int .i64 a0_0, (.slice A0_1 l0_1.length c0_1)] 24 (0, 0))) ∧ Aside0 (wc.heap[gb249]? = some (.cells #[.int .i64 a1_0, (.slice A1_1 l1_1.length c1_1)] 24 (0, 0))) ∧ Aside0 (wc.heap[gb250]? = some (.cells #[.int .i64 0, (.slice none 0 0)] 24 (0, 0))) ∧ Aside0 (Below w.heap.size w wc))
  case first =>
    have H := HC6.out
    clear HC6
    by_cases c16 : (l0_1.length : Int) > 0
    rotate_left
    · rw [if_neg c16] at H
      have c16b0 : decide (0 < (l0_1.length : Int)) = false := decide_eq_false c16
      have c16b1 : decide (0 < l0_1.length) = false := decide_eq_false (by omega)
      clear c16
      (first | rw [c16b0] | (simp only [i64_w, i32_w]; rw [c16b0]) | skip)
      have H' := Aside0.mk H
      clear H
      have hnb22 := NB248_249.out
      have hnc22 := NB249_248.out
      have hnb23 := NB248_250.out
      have hnc23 := NB250_248.out
      obtain ⟨hcz24_0, hcz24_1, hfz24_0, hfz24_1⟩ := cz2_ BK248
      go_wp2
      go_meet
      case rel => exact ⟨_, (false), (by first | rfl | (simp; done) | (simp [*]; done)), H', ⟨by first | omega | exact Nat.le_refl _⟩, ⟨by (with_reducible repeat (first | refine blk_drewN ?_ _ | refine blk_drew ?_ | refine blk_alloc ?_ _)); exact BK248.out⟩, ⟨by (with_reducible repeat (first | refine blk_drewN ?_ _ | refine blk_drew ?_ | refine blk_alloc ?_ _)); exact BK249.out⟩, ⟨by (with_reducible repeat (first | refine blk_drewN ?_ _ | refine blk_drew ?_ | refine blk_alloc ?_ _)); exact BK250.out⟩, ⟨HB_⟩⟩
    rw [if_pos c16] at H
    have c16b0 : decide (0 < (l0_1.length : Int)) = true := decide_eq_true c16
    have c16b1 : decide (0 < l0_1.length) = true := decide_eq_true (by omega)
    clear c16
    (first | rw [c16b0] | (simp only [i64_w, i32_w]; rw [c16b0]) | skip)
    have H' := Aside0.mk H
    clear H
    have hnb17 := NB248_249.out
    have hnc17 := NB249_248.out
    have hnb18 := NB248_250.out
    have hnc18 := NB250_248.out
    obtain ⟨hcz19_0, hcz19_1, hfz19_0, hfz19_1⟩ := cz2_ BK248
    have hnb20 := NB249_250.out
    have hnc20 := NB250_249.out
    obtain ⟨hcz21_0, hcz21_1, hfz21_0, hfz21_1⟩ := cz2_ BK249
    go_wp2
    go_meet
    case rel => exact ⟨_, (decide ((l1_1.length : Int) > 0)), (by first | rfl | (simp; done) | (simp [*]; done)), H', ⟨by first | omega | exact Nat.le_refl _⟩, ⟨by (with_reducible repeat (first | refine blk_drewN ?_ _ | refine blk_drew ?_ | refine blk_alloc ?_ _)); exact BK248.out⟩, ⟨by (with_reducible repeat (first | refine blk_drewN ?_ _ | refine blk_drew ?_ | refine blk_alloc ?_ _)); exact BK249.out⟩, ⟨by (with_reducible repeat (first | refine blk_drewN ?_ _ | refine blk_drew ?_ | refine blk_alloc ?_ _)); exact BK250.out⟩, ⟨HB_⟩⟩
  case rest =>
    clear HC6
    try clear c1
    try clear c2
    try clear p2
    try clear c5
    try clear c5b0
    try clear c5b1
    try clear c7
    try clear c10
    try clear c11
    try clear c13
    try clear c16
    try clear c16b0
    try clear c16b1
    try clear c17
    try clear c18
    try clear c20
    try clear c22
    try clear c23
    try clear hcz12_0
    try clear hcz12_1
    try clear hcz14_0
    try clear hcz14_1
    try clear hcz19_0
    try clear hcz19_1
    try clear hcz21_0
    try clear hcz21_1
    try clear hcz24_0
    try clear hcz24_1
    try clear hfz12_0
    try clear hfz12_1
    try clear hfz14_0
    try clear hfz14_1
    try clear hfz19_0
    try clear hfz19_1
    try clear hfz21_0
    try clear hfz21_1
    try clear hfz24_0
    try clear hfz24_1
    obtain ⟨kq, x19_5, rfl, HA, HJ5, BK248, BK249, BK250, HB⟩ := hcut
    cases kq with
    | zero => exact absurd HA.out (by simp [zone_both_v2.j0])
    | succ kj5 =>
      have H := HA.out
      clear HA
      simp only [zone_both_v2.j0] at H
      by_cases c25 : x19_5 = true
      · subst c25
        have H1 : ((zone_mixed_v2.f kj5 a0_0 l0_1 a1_0 l1_1).bind fun bt252 => (some (bt252.1, bt252.2, 0))) = some (r1, r2, r3) := by rw [if_pos rfl] at H; exact H
        clear H
        have H := H1
        clear H1
        replace H := Option.bind_eq_some_iff.mp H
        obtain ⟨⟨t252, t253⟩, A260, H⟩ := H
        replace H : (some (t252, t253, 0)) = some (r1, r2, r3) := H
        have A26 := Aside0.mk A260
        clear A260
        simp only [Option.some.injEq, Prod.mk.injEq] at H
        obtain ⟨rfl, rfl, rfl⟩ := H
        have hnb27 := NB248_249.out
        have hnc27 := NB249_248.out
        have hnb28 := NB248_250.out
        have hnc28 := NB250_248.out
        obtain ⟨hcz29_0, hcz29_1, hfz29_0, hfz29_1⟩ := cz2_ BK248
        have hnb30 := NB249_250.out
        have hnc30 := NB250_249.out
        obtain ⟨hcz31_0, hcz31_1, hfz31_0, hfz31_1⟩ := cz2_ BK249
        go_wp2_with (first | ((with_reducible refine gate_callee (f := 102) rfl ?_); refine goesL_ (some 33) rfl rfl Try.func102 (by kernel_rfl) rfl #[.agg #[.int .i64 a0_0, .slice A0_1 l0_1.length c0_1], .agg #[.int .i64 a1_0, .slice A1_1 l1_1.length c1_1], .func (.func 82) #[] #[]] rfl MP_ ?_; (with_reducible refine (zone_mixed_v2.calls kj5 a0_0 _ _ l0_1 a1_0 _ _ l1_1 t252 t253 _ ?side1 ?side2 ?side3 ?side4 A26.out).mono ?_); (case side1 => exact sd_ (Kd.C_below HR0_1.out HB.out)); (case side2 => exact HC0_1.out); (case side3 => exact sd_ (Kd.C_below HR1_1.out HB.out)); (case side4 => exact HC1_1.out); rintro e w32 ⟨v254, rfl, ho0, hb⟩; refine ⟨_, rfl, ?_⟩; have n_ := a_ (Aside0.mk (Kd.R_lower ho0 (below_size HB_))) (a_ (bb_ BK248 hb) (a_ (bb_ BK249 hb) (a_ (bb_ BK250 hb) (bs_ HB hb)))); clear BK248 BK249 BK250 HB; obtain ⟨HO255, BK248, BK249, BK250, HB⟩ := n_; (try clear hb); (try clear hb2); (try clear hk); (try clear hi); (try clear ho0); obtain ⟨hcz33_0, hcz33_1, hfz33_0, hfz33_1⟩ := cz2_ BK250; obtain ⟨Ao34, co34, eo34⟩ := Kd.R_slice HO255.out; subst eo34))
        refine bodyPost_ret (results_ct rfl _ _ gb250 24 #[.int .i64 t252, .slice Ao34 t253.length co34] (0, 0) _ rfl (bk2_ BK250.out) Try.underlying24 rfl (by kernel_rfl)) rfl ?_
        exact ⟨_, by first | rfl | (simp [errW_none, errW_some] <;> rfl) | (simp [*, errW_none, errW_some] <;> rfl), by (with_reducible repeat (first | apply Kd.R_alloc | apply Kd.R_drewN | apply Kd.R_drew)); exact Kd.R_mono (Kd.R_far (p := ⟨gb250, 1, none⟩) (Kd.R_far (p := ⟨gb250, 0, none⟩) (Kd.R_types HO255.out BK250.out (by decide)) (fun _ hk => hk.2) (.int .i64 t252)) (fun _ hk => hk.2) (.slice Ao34 t253.length co34)) (fun _ hk => trivial), HB_⟩
      replace c25 := Bool.eq_false_iff.mpr c25
      subst c25
      have H1 : (if a2 = true then (if (l0_1.length : Int) = 0 then ((slices_Clone_int_int.f l1_1).bind fun t256 => (some (a1_0, t256, 0))) else ((slices_Clone_int_int.f l0_1).bind fun t259 => (some (a0_0, t259, 0)))) else ((zone_empty.f a0_0 l0_1).bind fun bt262 => (some (bt262.1, bt262.2, 0)))) = some (r1, r2, r3) := by rw [if_neg (show ¬ (false = true) by decide)] at H; exact H
      clear H
      have H := H1
      clear H1
      by_cases c35 : a2 = true
      rotate_left
      · replace c35 := Bool.eq_false_iff.mpr c35
        subst c35
        have H1 : ((zone_empty.f a0_0 l0_1).bind fun bt262 => (some (bt262.1, bt262.2, 0))) = some (r1, r2, r3) := by rw [if_neg (show ¬ (false = true) by decide)] at H; exact H
        clear H
        have H := H1
        clear H1
        replace H := Option.bind_eq_some_iff.mp H
        obtain ⟨⟨t262, t263⟩, A580, H⟩ := H
        replace H : (some (t262, t263, 0)) = some (r1, r2, r3) := H
        have A58 := Aside0.mk A580
        clear A580
        simp only [Option.some.injEq, Prod.mk.injEq] at H
        obtain ⟨rfl, rfl, rfl⟩ := H
        have hnb59 := NB248_249.out
        have hnc59 := NB249_248.out
        have hnb60 := NB248_250.out
        have hnc60 := NB250_248.out
        obtain ⟨hcz61_0, hcz61_1, hfz61_0, hfz61_1⟩ := cz2_ BK248
        go_wp2_with (first | ((with_reducible refine gate_callee (f := 68) rfl ?_); refine goesL_ (some 38) rfl rfl Try.func68 (by kernel_rfl) rfl #[.agg #[.int .i64 a0_0, .slice A0_1 l0_1.length c0_1]] rfl MP_ ?_; (with_reducible refine (zone_empty.calls a0_0 _ _ l0_1 t262 t263 _ ?side1 ?side2 A58.out).mono ?_); (case side1 => exact sd_ (Kd.C_below HR0_1.out HB.out)); (case side2 => exact HC0_1.out); rintro e w62 ⟨v264, rfl, ho0, hb⟩; refine ⟨_, rfl, ?_⟩; have n_ := a_ (Aside0.mk (Kd.R_lower ho0 (below_size HB_))) (a_ (bb_ BK248 hb) (a_ (bb_ BK249 hb) (a_ (bb_ BK250 hb) (bs_ HB hb)))); clear BK248 BK249 BK250 HB; obtain ⟨HO265, BK248, BK249, BK250, HB⟩ := n_; (try clear hb); (try clear hb2); (try clear hk); (try clear hi); (try clear ho0); have hnb63 := NB250_249.out; have hnc63 := NB249_250.out; obtain ⟨hcz64_0, hcz64_1, hfz64_0, hfz64_1⟩ := cz2_ BK250; obtain ⟨Ao65, co65, eo65⟩ := Kd.R_slice HO265.out; subst eo65))
        refine bodyPost_ret (results_ct rfl _ _ gb250 24 #[.int .i64 t262, .slice Ao65 t263.length co65] (0, 0) _ rfl (bk2_ BK250.out) Try.underlying24 rfl (by kernel_rfl)) rfl ?_
        exact ⟨_, by first | rfl | (simp [errW_none, errW_some] <;> rfl) | (simp [*, errW_none, errW_some] <;> rfl), by (with_reducible repeat (first | apply Kd.R_alloc | apply Kd.R_drewN | apply Kd.R_drew)); exact Kd.R_mono (Kd.R_far (p := ⟨gb250, 1, none⟩) (Kd.R_far (p := ⟨gb250, 0, none⟩) (Kd.R_types HO265.out BK250.out (by decide)) (fun _ hk => hk.2) (.int .i64 t262)) (fun _ hk => hk.2) (.slice Ao65 t263.length co65)) (fun _ hk => trivial), HB_⟩
      subst c35
      have H1 : (if (l0_1.length : Int) = 0 then ((slices_Clone_int_int.f l1_1).bind fun t256 => (some (a1_0, t256, 0))) else ((slices_Clone_int_int.f l0_1).bind fun t259 => (some (a0_0, t259, 0)))) = some (r1, r2, r3) := by rw [if_pos rfl] at H; exact H
      clear H
      have H := H1
      clear H1
      by_cases c36 : (l0_1.length : Int) = 0
      rotate_left
      · rw [if_neg c36] at H
        have c36b0 : ((l0_1.length : Int) == 0) = false := beq_eq_false_iff_ne.mpr c36
        have c36b1 : ((l0_1.length : Int) != 0) = true := bne_iff_ne.mpr c36
        have c36b2 : ¬ (l0_1 = []) := fun h_ => c36 (by rw [h_]; rfl)
        replace H := Option.bind_eq_some_iff.mp H
        obtain ⟨t259, A490, H⟩ := H
        replace H : (some (a0_0, t259, 0)) = some (r1, r2, r3) := H
        have A49 := Aside0.mk A490
        clear A490
        simp only [Option.some.injEq, Prod.mk.injEq] at H
        obtain ⟨rfl, rfl, rfl⟩ := H
        have hnb50 := NB248_249.out
        have hnc50 := NB249_248.out
        have hnb51 := NB248_250.out
        have hnc51 := NB250_248.out
        obtain ⟨hcz52_0, hcz52_1, hfz52_0, hfz52_1⟩ := cz2_ BK248
        try go_wp2
        have n_ := a_ (Aside0.mk (blk_drew BK248.out)) (a_ (Aside0.mk (blk_drew BK249.out)) (a_ (Aside0.mk (blk_drew BK250.out)) (Aside0.mk (below_drew1 HB.out))))
        clear BK248 BK249 BK250 HB
        obtain ⟨BK248, BK249, BK250, HB⟩ := n_
        refine start_ (n := 8) (S := fun w' => w'.cell? ⟨gb248, 0, none⟩ = some (.int .i64 a0_0) ∧ w'.cell? ⟨gb248, 1, none⟩ = some (.slice A0_1 l0_1.length c0_1)) (ds := []) #[false, false, false, false, false, false, false, false] (by kernel_rfl) rfl rfl ⟨(blk_cell BK248.out 0).trans rfl, (blk_cell BK248.out 1).trans rfl⟩ (fun hHeld => ?_); refine with_tabW zone_both_v2.tab10 zone_both_v2.bits10 (fun HT_ HW_ => ?_)
        generalize wc.drew = w53 at BK248 BK249 BK250 HB hHeld ⊢
        refine pu_ 0 (some 45) ?_
        refine pu_ 2 (some 47) ?_
        refine take_ (i := 1) (N := some 46) (v := ?_) (a' := ?_) #[true, true, true, false, false, false, false, false] rfl rfl (take_ofW HT_.out HW_.out (by kernel_rfl)) (fun _ _ _ h => h) (Or.inl ⟨by rfl, ?_⟩) hHeld ?_ ?_
        rotate_left
        · rintro w' ⟨s0, s1⟩
          go_simp
          with_reducible rfl
        rotate_left
        · exact AP_
        refine take_ (i := 3) (N := some 48) (v := ?_) (a' := ?_) #[true, true, true, true, false, false, false, false] rfl rfl (take_ofW HT_.out HW_.out (by kernel_rfl)) (fun _ _ _ h => h) (Or.inl ⟨by rfl, ?_⟩) hHeld ?_ ?_
        rotate_left
        · rintro w' ⟨s0, s1⟩
          go_simp
          with_reducible rfl
        rotate_left
        · exact AP_
        refine on_ 4 (some 49) (fun K hK => ?_)
        refine goes_ Try.func85 (by kernel_rfl) rfl #[.slice A0_1 l0_1.length c0_1] (by rfl) rfl rfl MP_ ?_
        with_reducible refine (slices_Clone_int_int.calls _ _ l0_1 t259 _ ?side1 ?side2 A49.out).mono ?_
        (case side1 => exact sd_ (Kd.C_below HR0_1.out HB.out))
        (case side2 => exact HC0_1.out)
        rintro e w54 ⟨v260, rfl, ho0, hb⟩
        refine ⟨_, rfl, ?_⟩
        have n_ := a_ (Aside0.mk (Kd.R_lower ho0 (below_size HB_))) (a_ (bb_ BK248 hb) (a_ (bb_ BK249 hb) (a_ (bb_ BK250 hb) (bs_ HB hb))))
        clear BK248 BK249 BK250 HB
        obtain ⟨HO261, BK248, BK249, BK250, HB⟩ := n_
        (try clear hb)
        (try clear hb2)
        (try clear hk)
        (try clear hi)
        (try clear ho0)
        obtain ⟨Ao55, co55, eo55⟩ := Kd.R_slice HO261.out
        (first | subst eo55 | (injection eo55 with f1_ f2_ f3_; have f4_ := f1_.symm; have f5_ := f3_.symm; clear f1_ f2_ f3_; subst f4_; subst f5_))
        refine hK.out _ _ ⟨(blk_cell BK248.out 0).trans rfl, (blk_cell BK248.out 1).trans rfl⟩ (fun hHeld => ?_)
        clear hK K
        refine nm_ ?_
        refine pu_ 5 (some 50) ?_
        refine on_ 6 (none) (fun K hK => ?_)
        have hs56 : w54.cell? ⟨gb250, 0, none⟩ = some (.int .i64 0) := (blk_cell BK250.out 0).trans rfl
        have hfs56 := blk_frozen BK250.out 0
        have hns56_0 := NB248_250.out
        have hns56_1 := NB249_250.out
        have hms56_0 := NB250_248.out
        have hms56_1 := NB250_249.out
        have hs57 : w54.cell? ⟨gb250, 1, none⟩ = some (.slice none 0 0) := (blk_cell BK250.out 1).trans rfl
        have hfs57 := blk_frozen BK250.out 1
        have hns57_0 := NB248_250.out
        have hns57_1 := NB249_250.out
        have hms57_0 := NB250_248.out
        have hms57_1 := NB250_249.out
        refine skip_ (w1 := ?_) (by rfl) rfl ?_ ?_
        rotate_left
        · go_simp
          rfl
        refine hK.out _ _ ⟨((cell_far (p := ⟨gb250, _, none⟩) NB248_250.out _).trans (((cell_far (p := ⟨gb250, _, none⟩) NB248_250.out _).trans (hHeld.1)))), ((cell_far (p := ⟨gb250, _, none⟩) NB248_250.out _).trans (((cell_far (p := ⟨gb250, _, none⟩) NB248_250.out _).trans (hHeld.2))))⟩ (fun hHeld => ?_)
        clear hK K
        refine pu_ 7 (some 9) ?_
        refine done_ (done_of HT_.out (by kernel_rfl)) ?_
        try go_wp2
        refine bodyPost_ret (results_ct rfl _ _ gb250 24 #[.int .i64 a0_0, .slice Ao55 t259.length co55] (0, 0) _ rfl (bk2_ BK250.out) Try.underlying24 rfl (by kernel_rfl)) rfl ?_
        exact ⟨_, by first | rfl | (simp [errW_none, errW_some] <;> rfl) | (simp [*, errW_none, errW_some] <;> rfl), by (with_reducible repeat (first | apply Kd.R_alloc | apply Kd.R_drewN | apply Kd.R_drew)); exact Kd.R_mono (Kd.R_far (p := ⟨gb250, 1, none⟩) (Kd.R_far (p := ⟨gb250, 0, none⟩) (Kd.R_types HO261.out BK250.out (by decide)) (fun _ hk => hk.2) (.int .i64 a0_0)) (fun _ hk => hk.2) (.slice Ao55 t259.length co55)) (fun _ hk => trivial), HB_⟩
      rw [if_pos c36] at H
      have c36b0 : ((l0_1.length : Int) == 0) = true := beq_iff_eq.mpr c36
      have c36b1 : ((l0_1.length : Int) != 0) = false := bne_eq_false_iff_eq.mpr c36
      clear c36
      replace H := Option.bind_eq_some_iff.mp H
      obtain ⟨t256, A370, H⟩ := H
      replace H : (some (a1_0, t256, 0)) = some (r1, r2, r3) := H
      have A37 := Aside0.mk A370
      clear A370
      simp only [Option.some.injEq, Prod.mk.injEq] at H
      obtain ⟨rfl, rfl, rfl⟩ := H
      have hnb38 := NB248_249.out
      have hnc38 := NB249_248.out
      have hnb39 := NB248_250.out
      have hnc39 := NB250_248.out
      obtain ⟨hcz40_0, hcz40_1, hfz40_0, hfz40_1⟩ := cz2_ BK248
      have hnb41 := NB249_250.out
      have hnc41 := NB250_249.out
      obtain ⟨hcz42_0, hcz42_1, hfz42_0, hfz42_1⟩ := cz2_ BK249
      try go_wp2
      have n0_ : Aside0 (((wc.setCell ⟨gb248, 0, none⟩ (.int .i64 a1_0)).setCell ⟨gb248, 1, none⟩ (.slice A1_1 l1_1.length c1_1)).heap[gb248]? = some (.cells #[.int .i64 a1_0, .slice A1_1 l1_1.length c1_1] 24 (0, 0))) := ⟨by (with_reducible repeat (first | refine blk_drewN ?_ _ | refine blk_drew ?_ | refine blk_alloc ?_ _)); refine blk_put (cs := #[.int .i64 a1_0, .slice A0_1 l0_1.length c0_1]) ?_ 1 _ rfl; (with_reducible repeat (first | refine blk_drewN ?_ _ | refine blk_drew ?_ | refine blk_alloc ?_ _)); refine blk_put (cs := #[.int .i64 a0_0, .slice A0_1 l0_1.length c0_1]) ?_ 0 _ rfl; (with_reducible repeat (first | refine blk_drewN ?_ _ | refine blk_drew ?_ | refine blk_alloc ?_ _)); exact BK248.out⟩
      have n1_ : Aside0 (((wc.setCell ⟨gb248, 0, none⟩ (.int .i64 a1_0)).setCell ⟨gb248, 1, none⟩ (.slice A1_1 l1_1.length c1_1)).heap[gb249]? = some (.cells #[.int .i64 a1_0, .slice A1_1 l1_1.length c1_1] 24 (0, 0))) := ⟨by (with_reducible repeat (first | refine blk_drewN ?_ _ | refine blk_drew ?_ | refine blk_alloc ?_ _)); refine blk_far ?_ NB249_248.out _; (with_reducible repeat (first | refine blk_drewN ?_ _ | refine blk_drew ?_ | refine blk_alloc ?_ _)); refine blk_far ?_ NB249_248.out _; (with_reducible repeat (first | refine blk_drewN ?_ _ | refine blk_drew ?_ | refine blk_alloc ?_ _)); exact BK249.out⟩
      have n2_ : Aside0 (((wc.setCell ⟨gb248, 0, none⟩ (.int .i64 a1_0)).setCell ⟨gb248, 1, none⟩ (.slice A1_1 l1_1.length c1_1)).heap[gb250]? = some (.cells #[.int .i64 0, .slice none 0 0] 24 (0, 0))) := ⟨by (with_reducible repeat (first | refine blk_drewN ?_ _ | refine blk_drew ?_ | refine blk_alloc ?_ _)); refine blk_far ?_ NB250_248.out _; (with_reducible repeat (first | refine blk_drewN ?_ _ | refine blk_drew ?_ | refine blk_alloc ?_ _)); refine blk_far ?_ NB250_248.out _; (with_reducible repeat (first | refine blk_drewN ?_ _ | refine blk_drew ?_ | refine blk_alloc ?_ _)); exact BK250.out⟩
      have n3_ : Aside0 (Below w.heap.size w ((wc.setCell ⟨gb248, 0, none⟩ (.int .i64 a1_0)).setCell ⟨gb248, 1, none⟩ (.slice A1_1 l1_1.length c1_1))) := ⟨HB_⟩
      (try clear BK248)
      (try clear BK249)
      (try clear BK250)
      (try clear HB)
      generalize ((wc.setCell ⟨gb248, 0, none⟩ (.int .i64 a1_0)).setCell ⟨gb248, 1, none⟩ (.slice A1_1 l1_1.length c1_1)) = w43 at n0_ n1_ n2_ n3_ ⊢
      have BK248 := n0_
      have BK249 := n1_
      have BK250 := n2_
      have HB := n3_
      clear n0_ n1_ n2_ n3_
      first | (obtain ⟨w43, hq_⟩ : ∃ x, x = w43.drewN nd := ⟨_, rfl⟩; rw [← hq_]; have q0_ := Aside0.mk (blk_drewN BK248.out nd); rw [← hq_] at q0_; have q1_ := Aside0.mk (blk_drewN BK249.out nd); rw [← hq_] at q1_; have q2_ := Aside0.mk (blk_drewN BK250.out nd); rw [← hq_] at q2_; have q3_ := Aside0.mk (pw_below_drewN HB.out nd); rw [← hq_] at q3_; clear BK248; clear BK249; clear BK250; clear HB; have BK248 := q0_; have BK249 := q1_; have BK250 := q2_; have HB := q3_; clear hq_ q0_ q1_ q2_ q3_) | skip
      have n_ := a_ (Aside0.mk (blk_drew BK248.out)) (a_ (Aside0.mk (blk_drew BK249.out)) (a_ (Aside0.mk (blk_drew BK250.out)) (Aside0.mk (below_drew1 HB.out))))
      clear BK248 BK249 BK250 HB
      obtain ⟨BK248, BK249, BK250, HB⟩ := n_
      refine start_ (n := 8) (S := fun w' => w'.cell? ⟨gb248, 0, none⟩ = some (.int .i64 a1_0) ∧ w'.cell? ⟨gb248, 1, none⟩ = some (.slice A1_1 l1_1.length c1_1)) (ds := []) #[false, false, false, false, false, false, false, false] (by kernel_rfl) rfl rfl ⟨(blk_cell BK248.out 0).trans rfl, (blk_cell BK248.out 1).trans rfl⟩ (fun hHeld => ?_); refine with_tabW zone_both_v2.tab10 zone_both_v2.bits10 (fun HT_ HW_ => ?_)
      generalize w43.drew = w44 at BK248 BK249 BK250 HB hHeld ⊢
      refine pu_ 0 (some 45) ?_
      refine pu_ 2 (some 47) ?_
      refine take_ (i := 1) (N := some 46) (v := ?_) (a' := ?_) #[true, true, true, false, false, false, false, false] rfl rfl (take_ofW HT_.out HW_.out (by kernel_rfl)) (fun _ _ _ h => h) (Or.inl ⟨by rfl, ?_⟩) hHeld ?_ ?_
      rotate_left
      · rintro w' ⟨s0, s1⟩
        go_simp
        with_reducible rfl
      rotate_left
      · exact AP_
      refine take_ (i := 3) (N := some 48) (v := ?_) (a' := ?_) #[true, true, true, true, false, false, false, false] rfl rfl (take_ofW HT_.out HW_.out (by kernel_rfl)) (fun _ _ _ h => h) (Or.inl ⟨by rfl, ?_⟩) hHeld ?_ ?_
      rotate_left
      · rintro w' ⟨s0, s1⟩
        go_simp
        with_reducible rfl
      rotate_left
      · exact AP_
      refine on_ 4 (some 49) (fun K hK => ?_)
      refine goes_ Try.func85 (by kernel_rfl) rfl #[.slice A1_1 l1_1.length c1_1] (by rfl) rfl rfl MP_ ?_
      with_reducible refine (slices_Clone_int_int.calls _ _ l1_1 t256 _ ?side1 ?side2 A37.out).mono ?_
      (case side1 => exact sd_ (Kd.C_below HR1_1.out HB.out))
      (case side2 => exact HC1_1.out)
      rintro e w45 ⟨v257, rfl, ho0, hb⟩
      refine ⟨_, rfl, ?_⟩
      have n_ := a_ (Aside0.mk (Kd.R_lower ho0 (below_size HB_))) (a_ (bb_ BK248 hb) (a_ (bb_ BK249 hb) (a_ (bb_ BK250 hb) (bs_ HB hb))))
      clear BK248 BK249 BK250 HB
      obtain ⟨HO258, BK248, BK249, BK250, HB⟩ := n_
      (try clear hb)
      (try clear hb2)
      (try clear hk)
      (try clear hi)
      (try clear ho0)
      obtain ⟨Ao46, co46, eo46⟩ := Kd.R_slice HO258.out
      (first | subst eo46 | (injection eo46 with f1_ f2_ f3_; have f4_ := f1_.symm; have f5_ := f3_.symm; clear f1_ f2_ f3_; subst f4_; subst f5_))
      refine hK.out _ _ ⟨(blk_cell BK248.out 0).trans rfl, (blk_cell BK248.out 1).trans rfl⟩ (fun hHeld => ?_)
      clear hK K
      refine nm_ ?_
      refine pu_ 5 (some 50) ?_
      refine on_ 6 (none) (fun K hK => ?_)
      have hs47 : w45.cell? ⟨gb250, 0, none⟩ = some (.int .i64 0) := (blk_cell BK250.out 0).trans rfl
      have hfs47 := blk_frozen BK250.out 0
      have hns47_0 := NB248_250.out
      have hns47_1 := NB249_250.out
      have hms47_0 := NB250_248.out
      have hms47_1 := NB250_249.out
      have hs48 : w45.cell? ⟨gb250, 1, none⟩ = some (.slice none 0 0) := (blk_cell BK250.out 1).trans rfl
      have hfs48 := blk_frozen BK250.out 1
      have hns48_0 := NB248_250.out
      have hns48_1 := NB249_250.out
      have hms48_0 := NB250_248.out
      have hms48_1 := NB250_249.out
      refine skip_ (w1 := ?_) (by rfl) rfl ?_ ?_
      rotate_left
      · go_simp
        rfl
      refine hK.out _ _ ⟨((cell_far (p := ⟨gb250, _, none⟩) NB248_250.out _).trans (((cell_far (p := ⟨gb250, _, none⟩) NB248_250.out _).trans (hHeld.1)))), ((cell_far (p := ⟨gb250, _, none⟩) NB248_250.out _).trans (((cell_far (p := ⟨gb250, _, none⟩) NB248_250.out _).trans (hHeld.2))))⟩ (fun hHeld => ?_)
      clear hK K
      refine pu_ 7 (some 9) ?_
      refine done_ (done_of HT_.out (by kernel_rfl)) ?_
      try go_wp2
      refine bodyPost_ret (results_ct rfl _ _ gb250 24 #[.int .i64 a1_0, .slice Ao46 t256.length co46] (0, 0) _ rfl (bk2_ BK250.out) Try.underlying24 rfl (by kernel_rfl)) rfl ?_
      exact ⟨_, by first | rfl | (simp [errW_none, errW_some] <;> rfl) | (simp [*, errW_none, errW_some] <;> rfl), by (with_reducible repeat (first | apply Kd.R_alloc | apply Kd.R_drewN | apply Kd.R_drew)); exact Kd.R_mono (Kd.R_far (p := ⟨gb250, 1, none⟩) (Kd.R_far (p := ⟨gb250, 0, none⟩) (Kd.R_types HO258.out BK250.out (by decide)) (fun _ hk => hk.2) (.int .i64 a1_0)) (fun _ hk => hk.2) (.slice Ao46 t256.length co46)) (fun _ hk => trivial), HB_⟩
/-! ### zone_Widen: function 38 -/
def zone_Widen.f (k : Nat) (a0_0 : Int) (l0_1 : List Int) (a1_0 : Int) (l1_1 : List Int) : Option (Int × List Int × Int) := (zone_both_v2.f k a0_0 l0_1 a1_0 l1_1 true).bind fun bt269 => (some (bt269.1, bt269.2.1, bt269.2.2))
theorem zone_Widen.mono : ∀ a0 a1 a2 a3 k, LeO (zone_Widen.f k a0 a1 a2 a3) (zone_Widen.f (k + 1) a0 a1 a2 a3) := by
  intro a0 a1 a2 a3 k
  unfold zone_Widen.f
  repeat' first
      | (with_reducible exact zone_both_v2.mono _ _ _ _ _ _)
      | (with_reducible exact LeO.refl _)
      | (with_reducible exact LeO.none _)
      | (with_reducible refine LeO.ite ?_ ?_)
      | (with_reducible refine LeO.bind ?_ (fun _ => ?_))
      | exact zone_both_v2.mono _ _ _ _ _ _
      | exact LeO.none _
      | refine LeO.ite ?_ ?_
      | refine LeO.bind ?_ (fun _ => ?_)
set_option maxHeartbeats 8000000 in
set_option maxRecDepth 100000 in
theorem zone_Widen.calls (k : Nat) (a0_0 : Int) (A0_1 : Option Addr) (c0_1 : Nat) (l0_1 : List Int) (a1_0 : Int) (A1_1 : Option Addr) (c1_1 : Nat) (l1_1 : List Int) (r1 : Int) (r2 : List Int) (r3 : Int) (w : World) (hr0_1 : Kd.C (Kd.int .i64) w A0_1 l0_1.length l0_1) (hc0_1 : l0_1.length ≤ c0_1) (hr1_1 : Kd.C (Kd.int .i64) w A1_1 l1_1.length l1_1) (hc1_1 : l1_1.length ≤ c1_1) (h : zone_Widen.f k a0_0 l0_1 a1_0 l1_1 = some (r1, r2, r3)) :
    Calls Try.prog 38 #[.agg #[.int .i64 a0_0, .slice A0_1 l0_1.length c0_1], .agg #[.int .i64 a1_0, .slice A1_1 l1_1.length c1_1]] w fun e w' => ∃ v1_ : Value, e = .returned (.tuple #[.agg #[.int .i64 r1, v1_], .int .i64 r3]) ∧ Kd.R (Kd.int .i64) 3 w' w.heap.size (fun _ => True) v1_ r2 ∧ Below w.heap.size w w' := by
  have hu24 := Try.underlying24
  have HR0_1 := Aside0.mk hr0_1
  have HC0_1 := Aside0.mk hc0_1
  clear hr0_1 hc0_1
  have HR1_1 := Aside0.mk hr1_1
  have HC1_1 := Aside0.mk hc1_1
  clear hr1_1 hc1_1
  have HB := Aside0.mk (Below.refl w.heap.size w)
  have H : ((zone_both_v2.f k a0_0 l0_1 a1_0 l1_1 true).bind fun bt269 => (some (bt269.1, bt269.2.1, bt269.2.2))) = some (r1, r2, r3) := h
  clear h
  replace H := Option.bind_eq_some_iff.mp H
  obtain ⟨⟨t269, t270, t273⟩, A30, H⟩ := H
  replace H : (some (t269, t270, t273)) = some (r1, r2, r3) := H
  have A3 := Aside0.mk A30
  clear A30
  simp only [Option.some.injEq, Prod.mk.injEq] at H
  obtain ⟨rfl, rfl, rfl⟩ := H
  go_enter Try.func38, Try.ntmps38
  go_wp2_with (first | ((with_reducible refine gate_dst (N := 2) rfl ?_); refine bx_ (N := 2) (cs := #[.int .i64 a0_0, .slice A0_1 l0_1.length c0_1]) (t := 24) ?_; intro gb266 hg w4 hbox hb; have n_ := a_ (bs_ HB hb) (a_ (Aside0.mk hbox) (a_ (gs_ HB hg) (gs_ HB hg))); clear HB; obtain ⟨HB, BK266, GW266, GE266⟩ := n_; clear hb hbox hg) | ((with_reducible refine gate_dst (N := 3) rfl ?_); refine bx_ (N := 3) (cs := #[.int .i64 a1_0, .slice A1_1 l1_1.length c1_1]) (t := 24) ?_; intro gb267 hg w5 hbox hb; have n_ := a_ (bb_ BK266 hb) (a_ (bs_ HB hb) (a_ (Aside0.mk hbox) (a_ (gs_ HB hg) (a_ (gs_ HB hg) (a_ (nl_ BK266 hg) (ng_ BK266 hg)))))); clear BK266 HB; obtain ⟨BK266, HB, BK267, GW267, GE267, NB266_267, NB267_266⟩ := n_; clear hb hbox hg) | ((with_reducible refine gate_dst (N := 4) rfl ?_); refine bx_ (N := 4) (cs := #[.int .i64 0, .slice none 0 0]) (t := 24) ?_; intro gb268 hg w6 hbox hb; have n_ := a_ (bb_ BK266 hb) (a_ (bb_ BK267 hb) (a_ (bs_ HB hb) (a_ (Aside0.mk hbox) (a_ (gs_ HB hg) (a_ (gs_ HB hg) (a_ (nl_ BK266 hg) (a_ (ng_ BK266 hg) (a_ (nl_ BK267 hg) (ng_ BK267 hg))))))))); clear BK266 BK267 HB; obtain ⟨BK266, BK267, HB, BK268, GW268, GE268, NB266_268, NB268_266, NB267_268, NB268_267⟩ := n_; clear hb hbox hg; have hnb7 := NB266_267.out; have hnc7 := NB267_266.out; have hnb8 := NB266_268.out; have hnc8 := NB268_266.out; obtain ⟨hcz9_0, hcz9_1, hfz9_0, hfz9_1⟩ := cz2_ BK266; have hnb10 := NB267_268.out; have hnc10 := NB268_267.out; obtain ⟨hcz11_0, hcz11_1, hfz11_0, hfz11_1⟩ := cz2_ BK267) | ((with_reducible refine gate_callee (f := 77) rfl ?_); refine goesL_ (some 8) rfl rfl Try.func77 (by kernel_rfl) rfl #[.agg #[.int .i64 a0_0, .slice A0_1 l0_1.length c0_1], .agg #[.int .i64 a1_0, .slice A1_1 l1_1.length c1_1], .bool true, .func (.func 82) #[] #[]] rfl MP_ ?_; (with_reducible refine (zone_both_v2.calls k a0_0 _ _ l0_1 a1_0 _ _ l1_1 true t269 t270 t273 _ ?side1 ?side2 ?side3 ?side4 A3.out).mono ?_); (case side1 => exact sd_ (Kd.C_below HR0_1.out HB.out)); (case side2 => exact HC0_1.out); (case side3 => exact sd_ (Kd.C_below HR1_1.out HB.out)); (case side4 => exact HC1_1.out); rintro e w12 ⟨v271, rfl, ho0, hb⟩; refine ⟨_, rfl, ?_⟩; have n_ := a_ (Aside0.mk (Kd.R_lower ho0 (below_size HB_))) (a_ (bb_ BK266 hb) (a_ (bb_ BK267 hb) (a_ (bb_ BK268 hb) (bs_ HB hb)))); clear BK266 BK267 BK268 HB; obtain ⟨HO272, BK266, BK267, BK268, HB⟩ := n_; (try clear hb); (try clear hb2); (try clear hk); (try clear hi); (try clear ho0); obtain ⟨hcz13_0, hcz13_1, hfz13_0, hfz13_1⟩ := cz2_ BK268; obtain ⟨Ao14, co14, eo14⟩ := Kd.R_slice HO272.out; subst eo14))
  refine bodyPost_ret (results_ct rfl _ _ gb268 24 #[.int .i64 t269, .slice Ao14 t270.length co14] (0, 0) _ rfl (bk2_ BK268.out) Try.underlying24 rfl (by kernel_rfl)) rfl ?_
  exact ⟨_, by first | rfl | (simp [errW_none, errW_some] <;> rfl) | (simp [*, errW_none, errW_some] <;> rfl), by (with_reducible repeat (first | apply Kd.R_alloc | apply Kd.R_drewN | apply Kd.R_drew)); exact Kd.R_mono (Kd.R_far (p := ⟨gb268, 1, none⟩) (Kd.R_far (p := ⟨gb268, 0, none⟩) (Kd.R_types HO272.out BK268.out (by decide)) (fun _ hk => hk.2) (.int .i64 t269)) (fun _ hk => hk.2) (.slice Ao14 t270.length co14)) (fun _ hk => trivial), HB_⟩

/-! ### zone_leq: function 80 -/
mutual
def zone_leq.j0 : Nat → Bool → Int → List Int → Int → List Int → Option (Bool)
  | 0, _, _, _, _, _ => none
  | k + 1, x16, x275000, x275001, x276000, x276001 => if x16 = true then (some ((x275001.length : Int) == 0)) else (zone_leq.l0 k x275001 (x275001.length : Int) 0 x276000 x276001)
def zone_leq.l0 : Nat → List Int → Int → Int → Int → List Int → Option (Bool)
  | 0, _, _, _, _, _ => none
  | k + 1, x22, x23, x24, x276000, x276001 => if x24 < x23 then (if 0 ≤ x24 then (if x24 < (x22.length : Int) then (if x24 < (x276001.length : Int) then (if (rd x22 x24) > (rd x276001 x24) then (some false) else (zone_leq.l0 k x22 x23 (wrap64 (x24 + 1)) x276000 x276001)) else (none)) else (none)) else (none)) else (some true)
end
def zone_leq.f (k : Nat) (a0_0 : Int) (l0_1 : List Int) (a1_0 : Int) (l1_1 : List Int) : Option (Bool) := if (l0_1.length : Int) = 0 then (zone_leq.j0 k true a0_0 l0_1 a1_0 l1_1) else (zone_leq.j0 k ((l1_1.length : Int) == 0) a0_0 l0_1 a1_0 l1_1)
theorem zone_leq.mono_l : ∀ k, (∀ y0 y1 y2 y3 y4, LeO (zone_leq.j0 k y0 y1 y2 y3 y4) (zone_leq.j0 (k + 1) y0 y1 y2 y3 y4)) ∧ (∀ y0 y1 y2 y3 y4, LeO (zone_leq.l0 k y0 y1 y2 y3 y4) (zone_leq.l0 (k + 1) y0 y1 y2 y3 y4))
  | 0 => ⟨fun _ _ _ _ _ r h => by simp [zone_leq.j0] at h, fun _ _ _ _ _ r h => by simp [zone_leq.l0] at h⟩
  | k + 1 => by
    obtain ⟨ih0, ih1⟩ := zone_leq.mono_l k
    refine ⟨?_, ?_⟩
    · intro y0 y1 y2 y3 y4
      unfold zone_leq.j0
      repeat' first
      | (with_reducible exact ih0 _ _ _ _ _)
      | (with_reducible exact ih1 _ _ _ _ _)
      | (with_reducible exact LeO.refl _)
      | (with_reducible exact LeO.none _)
      | (with_reducible refine LeO.ite ?_ ?_)
      | (with_reducible refine LeO.bind ?_ (fun _ => ?_))
      | exact ih0 _ _ _ _ _
      | exact ih1 _ _ _ _ _
      | exact LeO.none _
      | refine LeO.ite ?_ ?_
      | refine LeO.bind ?_ (fun _ => ?_)
    · intro y0 y1 y2 y3 y4
      unfold zone_leq.l0
      repeat' first
      | (with_reducible exact ih0 _ _ _ _ _)
      | (with_reducible exact ih1 _ _ _ _ _)
      | (with_reducible exact LeO.refl _)
      | (with_reducible exact LeO.none _)
      | (with_reducible refine LeO.ite ?_ ?_)
      | (with_reducible refine LeO.bind ?_ (fun _ => ?_))
      | exact ih0 _ _ _ _ _
      | exact ih1 _ _ _ _ _
      | exact LeO.none _
      | refine LeO.ite ?_ ?_
      | refine LeO.bind ?_ (fun _ => ?_)
theorem zone_leq.mono : ∀ a0 a1 a2 a3 k, LeO (zone_leq.f k a0 a1 a2 a3) (zone_leq.f (k + 1) a0 a1 a2 a3) := by
  intro a0 a1 a2 a3 k
  obtain ⟨ih0, ih1⟩ := zone_leq.mono_l k
  unfold zone_leq.f
  repeat' first
      | (with_reducible exact ih0 _ _ _ _ _)
      | (with_reducible exact ih1 _ _ _ _ _)
      | (with_reducible exact LeO.refl _)
      | (with_reducible exact LeO.none _)
      | (with_reducible refine LeO.ite ?_ ?_)
      | (with_reducible refine LeO.bind ?_ (fun _ => ?_))
      | exact ih0 _ _ _ _ _
      | exact ih1 _ _ _ _ _
      | exact LeO.none _
      | refine LeO.ite ?_ ?_
      | refine LeO.bind ?_ (fun _ => ?_)
set_option maxHeartbeats 8000000 in
set_option maxRecDepth 100000 in
theorem zone_leq.calls (k : Nat) (a0_0 : Int) (A0_1 : Option Addr) (c0_1 : Nat) (l0_1 : List Int) (a1_0 : Int) (A1_1 : Option Addr) (c1_1 : Nat) (l1_1 : List Int) (r : Bool) (w : World) (hr0_1 : Kd.C (Kd.int .i64) w A0_1 l0_1.length l0_1) (hc0_1 : l0_1.length ≤ c0_1) (hr1_1 : Kd.C (Kd.int .i64) w A1_1 l1_1.length l1_1) (hc1_1 : l1_1.length ≤ c1_1) (h : zone_leq.f k a0_0 l0_1 a1_0 l1_1 = some r) :
    Calls Try.prog 80 #[.agg #[.int .i64 a0_0, .slice A0_1 l0_1.length c0_1], .agg #[.int .i64 a1_0, .slice A1_1 l1_1.length c1_1]] w fun e w' => e = .returned (.bool r) ∧ Below w.heap.size w w' := by
  have hu24 := Try.underlying24
  have HR0_1 := Aside0.mk hr0_1
  have HC0_1 := Aside0.mk hc0_1
  clear hr0_1 hc0_1
  have HR1_1 := Aside0.mk hr1_1
  have HC1_1 := Aside0.mk hc1_1
  clear hr1_1 hc1_1
  have HB := Aside0.mk (Below.refl w.heap.size w)
  have H : (if (l0_1.length : Int) = 0 then (zone_leq.j0 k true a0_0 l0_1 a1_0 l1_1) else (zone_leq.j0 k ((l1_1.length : Int) == 0) a0_0 l0_1 a1_0 l1_1)) = some r := h
  clear h
  have HC3 := Aside0.mk H
  clear H
  go_enter Try.func80, Try.ntmps80
  go_upto_region 1 with (first | ((with_reducible refine gate_dst (N := 2) rfl ?_); (try (refine gate_guard (by rfl) ?_; dsimp only)); refine bx_ (N := 2) (cs := #[.int .i64 a0_0, .slice A0_1 l0_1.length c0_1]) (t := 24) ?_; intro gb274 hg w4 hbox hb; have n_ := a_ (bs_ HB hb) (a_ (Aside0.mk hbox) (a_ (gs_ HB hg) (gs_ HB hg))); clear HB; obtain ⟨HB, BK274, GW274, GE274⟩ := n_; clear hb hbox hg) | ((with_reducible refine gate_dst (N := 3) rfl ?_); (try (refine gate_guard (by rfl) ?_; dsimp only)); refine bx_ (N := 3) (cs := #[.int .i64 a1_0, .slice A1_1 l1_1.length c1_1]) (t := 24) ?_; intro gb275 hg w5 hbox hb; have n_ := a_ (bb_ BK274 hb) (a_ (bs_ HB hb) (a_ (Aside0.mk hbox) (a_ (gs_ HB hg) (a_ (gs_ HB hg) (a_ (nl_ BK274 hg) (ng_ BK274 hg)))))); clear BK274 HB; obtain ⟨BK274, HB, BK275, GW275, GE275, NB274_275, NB275_274⟩ := n_; clear hb hbox hg))
  (try simp only [Act.put, List.setIfInBounds_toArray, List.set_cons_zero, List.set_cons_succ])
  go_cut [16] (fun v16 wc => ∃ (kq : Nat) (x16_2 : Bool), v16 = .bool x16_2 ∧ Aside0 (zone_leq.j0 kq x16_2 a0_0 l0_1 a1_0 l1_1 = some r) ∧ Aside0 (kq ≤ k) ∧ Aside0 (wc.heap[gb274]? = some (.cells #[.int .i64 a0_0, (.slice A0_1 l0_1.length c0_1)] 24 (0, 0))) ∧ Aside0 (wc.heap[gb275]? = some (.cells #[.int .i64 a1_0, (.slice A1_1 l1_1.length c1_1)] 24 (0, 0))) ∧ Aside0 (Below w.heap.size w wc))
  case first =>
    have H := HC3.out
    clear HC3
    by_cases c6 : (l0_1.length : Int) = 0
    · rw [if_pos c6] at H
      have c6b0 : ((l0_1.length : Int) == 0) = true := beq_iff_eq.mpr c6
      have c6b1 : ((l0_1.length : Int) != 0) = false := bne_eq_false_iff_eq.mpr c6
      clear c6
      (first | rw [c6b0] | (simp only [i64_w, i32_w]; rw [c6b0]) | skip)
      have H' := Aside0.mk H
      clear H
      have hnb7 := NB274_275.out
      have hnc7 := NB275_274.out
      obtain ⟨hcz8_0, hcz8_1, hfz8_0, hfz8_1⟩ := cz2_ BK274
      go_wp2
      go_meet
      case rel => exact ⟨_, (true), (by first | rfl | (simp; done) | (simp [*]; done)), H', ⟨by first | omega | exact Nat.le_refl _⟩, ⟨by (with_reducible repeat (first | refine blk_drewN ?_ _ | refine blk_drew ?_ | refine blk_alloc ?_ _)); exact BK274.out⟩, ⟨by (with_reducible repeat (first | refine blk_drewN ?_ _ | refine blk_drew ?_ | refine blk_alloc ?_ _)); exact BK275.out⟩, ⟨HB_⟩⟩
    rw [if_neg c6] at H
    have c6b0 : ((l0_1.length : Int) == 0) = false := beq_eq_false_iff_ne.mpr c6
    have c6b1 : ((l0_1.length : Int) != 0) = true := bne_iff_ne.mpr c6
    have c6b2 : ¬ (l0_1 = []) := fun h_ => c6 (by rw [h_]; rfl)
    (first | rw [c6b0] | (simp only [i64_w, i32_w]; rw [c6b0]) | skip)
    have H' := Aside0.mk H
    clear H
    have hnb9 := NB274_275.out
    have hnc9 := NB275_274.out
    obtain ⟨hcz10_0, hcz10_1, hfz10_0, hfz10_1⟩ := cz2_ BK274
    obtain ⟨hcz11_0, hcz11_1, hfz11_0, hfz11_1⟩ := cz2_ BK275
    go_wp2
    go_meet
    case rel => exact ⟨_, (((l1_1.length : Int) == 0)), (by first | rfl | (simp; done) | (simp [*]; done)), H', ⟨by first | omega | exact Nat.le_refl _⟩, ⟨by (with_reducible repeat (first | refine blk_drewN ?_ _ | refine blk_drew ?_ | refine blk_alloc ?_ _)); exact BK274.out⟩, ⟨by (with_reducible repeat (first | refine blk_drewN ?_ _ | refine blk_drew ?_ | refine blk_alloc ?_ _)); exact BK275.out⟩, ⟨HB_⟩⟩
  case rest =>
    clear HC3
    try clear c1
    try clear p2
    try clear c6
    try clear c6b0
    try clear c6b1
    try clear c6b2
    try clear c7
    try clear c8
    try clear c9
    try clear hcz10_0
    try clear hcz10_1
    try clear hcz11_0
    try clear hcz11_1
    try clear hcz8_0
    try clear hcz8_1
    try clear hfz10_0
    try clear hfz10_1
    try clear hfz11_0
    try clear hfz11_1
    try clear hfz8_0
    try clear hfz8_1
    obtain ⟨kq, x16_2, rfl, HA, HJ2, BK274, BK275, HB⟩ := hcut
    cases kq with
    | zero => exact absurd HA.out (by simp [zone_leq.j0])
    | succ kj2 =>
      have H := HA.out
      clear HA
      simp only [zone_leq.j0] at H
      by_cases c12 : x16_2 = true
      · subst c12
        replace H := ps1_ H
        obtain rfl := Option.some.inj H
        have hnb13 := NB274_275.out
        have hnc13 := NB275_274.out
        obtain ⟨hcz14_0, hcz14_1, hfz14_0, hfz14_1⟩ := cz2_ BK274
        go_wp2
        go_ret
        exact ⟨by first | rfl | (simp [errW_none, errW_some] <;> rfl) | (simp [*, errW_none, errW_some] <;> rfl), HB_⟩
      replace c12 := Bool.eq_false_iff.mpr c12
      subst c12
      replace H := ng1_ H
      have H' := Aside0.mk H
      clear H
      have hnb15 := NB274_275.out
      have hnc15 := NB275_274.out
      obtain ⟨hcz16_0, hcz16_1, hfz16_0, hfz16_1⟩ := cz2_ BK274
      go_wp2
      go_loopg [24] kj2 (fun kq v24 w' => ∃ (x24_2 : Int), v24 = .int .i64 x24_2 ∧ Aside0 (zone_leq.l0 kq l0_1 (l0_1.length : Int) x24_2 a1_0 l1_1 = some r) ∧ Aside0 (kq ≤ kj2) ∧ Aside0 (w'.heap[gb274]? = some (.cells #[.int .i64 a0_0, (.slice A0_1 l0_1.length c0_1)] 24 (0, 0))) ∧ Aside0 (w'.heap[gb275]? = some (.cells #[.int .i64 a1_0, (.slice A1_1 l1_1.length c1_1)] 24 (0, 0))) ∧ Aside0 (Below w.heap.size w w'))
      case atStart => exact ⟨(0), (by first | rfl | (simp; done) | (simp [*]; done)), H', ⟨Nat.le_refl _⟩, ⟨by (with_reducible repeat (first | refine blk_drewN ?_ _ | refine blk_drew ?_ | refine blk_alloc ?_ _)); exact BK274.out⟩, ⟨by (with_reducible repeat (first | refine blk_drewN ?_ _ | refine blk_drew ?_ | refine blk_alloc ?_ _)); exact BK275.out⟩, ⟨HB_⟩⟩
      case round =>
        clear H'
        try clear c1
        try clear p2
        try clear c6
        try clear c6b0
        try clear c6b1
        try clear c6b2
        try clear c7
        try clear c8
        try clear c9
        try clear c12
        try clear c13
        try clear c15
        try clear hcz10_0
        try clear hcz10_1
        try clear hcz11_0
        try clear hcz11_1
        try clear hcz14_0
        try clear hcz14_1
        try clear hcz16_0
        try clear hcz16_1
        try clear hcz8_0
        try clear hcz8_1
        try clear hfz10_0
        try clear hfz10_1
        try clear hfz11_0
        try clear hfz11_1
        try clear hfz14_0
        try clear hfz14_1
        try clear hfz16_0
        try clear hfz16_1
        try clear hfz8_0
        try clear hfz8_1
        try clear p2
        obtain ⟨x24_2, rfl, HA, HK2, BK274, BK275, HB⟩ := hrel
        cases gk with
        | zero => exact absurd HA.out (by simp [zone_leq.l0])
        | succ k2 =>
          have H := HA.out
          clear HA
          simp only [zone_leq.l0] at H
          by_cases c17 : x24_2 < (l0_1.length : Int)
          rotate_left
          · rw [if_neg c17] at H
            have c17b0 : decide (x24_2 < (l0_1.length : Int)) = false := decide_eq_false c17
            clear c17
            obtain rfl := Option.some.inj H
            go_wp2
            go_ret
            exact ⟨by first | rfl | (simp [errW_none, errW_some] <;> rfl) | (simp [*, errW_none, errW_some] <;> rfl), HB_⟩

          rw [if_pos c17] at H
          have c17b0 : decide (x24_2 < (l0_1.length : Int)) = true := decide_eq_true c17
          clear c17
          replace H := yes_ H
          obtain ⟨c18, H⟩ := H
          have c18b0 : decide (0 ≤ x24_2) = true := decide_eq_true c18
          clear c18
          replace H := yes_ H
          obtain ⟨c19, H⟩ := H
          have c19b0 : decide (x24_2 < (l0_1.length : Int)) = true := decide_eq_true c19
          clear c19
          replace H := yes_ H
          obtain ⟨c20, H⟩ := H
          have c20b0 : decide (x24_2 < (l1_1.length : Int)) = true := decide_eq_true c20
          clear c20
          by_cases c21 : (rd l0_1 x24_2) > (rd l1_1 x24_2)
          · rw [if_pos c21] at H
            have c21b0 : decide ((rd l1_1 x24_2) < (rd l0_1 x24_2)) = true := decide_eq_true c21
            clear c21
            obtain rfl := Option.some.inj H
            have p276 : 0 ≤ (x24_2 : Int) := of_decide_eq_true (by first | (with_reducible assumption) | assumption)
            have q276 : x24_2 < (l0_1.length : Int) := of_decide_eq_true (by first | (with_reducible assumption) | assumption)
            obtain ⟨ad276, e276, hx276_0⟩ := Kd.at_int HR0_1.out x24_2 p276 q276
            cases e276
            first | (replace hx276_0 := (HB.out.cell (World.block_lt_of_cell? w _ hx276_0)).trans hx276_0) | skip
            replace p276 := eq_true p276
            replace q276 := eq_true q276
            have hnb22 := NB275_274.out
            have hnc22 := NB274_275.out
            obtain ⟨hcz23_0, hcz23_1, hfz23_0, hfz23_1⟩ := cz2_ BK275
            have p277 : 0 ≤ (x24_2 : Int) := of_decide_eq_true (by first | (with_reducible assumption) | assumption)
            have q277 : x24_2 < (l1_1.length : Int) := of_decide_eq_true (by first | (with_reducible assumption) | assumption)
            obtain ⟨ad277, e277, hx277_0⟩ := Kd.at_int HR1_1.out x24_2 p277 q277
            cases e277
            first | (replace hx277_0 := (HB.out.cell (World.block_lt_of_cell? w _ hx277_0)).trans hx277_0) | skip
            replace p277 := eq_true p277
            replace q277 := eq_true q277
            go_wp2
            go_ret
            exact ⟨by first | rfl | (simp [errW_none, errW_some] <;> rfl) | (simp [*, errW_none, errW_some] <;> rfl), HB_⟩
          rw [if_neg c21] at H
          have c21b0 : decide ((rd l1_1 x24_2) < (rd l0_1 x24_2)) = false := decide_eq_false c21
          clear c21
          have H' := Aside0.mk H
          clear H
          have p276 : 0 ≤ (x24_2 : Int) := of_decide_eq_true (by first | (with_reducible assumption) | assumption)
          have q276 : x24_2 < (l0_1.length : Int) := of_decide_eq_true (by first | (with_reducible assumption) | assumption)
          obtain ⟨ad276, e276, hx276_0⟩ := Kd.at_int HR0_1.out x24_2 p276 q276
          cases e276
          first | (replace hx276_0 := (HB.out.cell (World.block_lt_of_cell? w _ hx276_0)).trans hx276_0) | skip
          replace p276 := eq_true p276
          replace q276 := eq_true q276
          have hnb24 := NB275_274.out
          have hnc24 := NB274_275.out
          obtain ⟨hcz25_0, hcz25_1, hfz25_0, hfz25_1⟩ := cz2_ BK275
          have p277 : 0 ≤ (x24_2 : Int) := of_decide_eq_true (by first | (with_reducible assumption) | assumption)
          have q277 : x24_2 < (l1_1.length : Int) := of_decide_eq_true (by first | (with_reducible assumption) | assumption)
          obtain ⟨ad277, e277, hx277_0⟩ := Kd.at_int HR1_1.out x24_2 p277 q277
          cases e277
          first | (replace hx277_0 := (HB.out.cell (World.block_lt_of_cell? w _ hx277_0)).trans hx277_0) | skip
          replace p277 := eq_true p277
          replace q277 := eq_true q277
          go_wp2
          go_roundg k2
          case measure => have := HJ2.out; have := HK2.out; omega
          case rel => exact ⟨(wrap64 (x24_2 + 1)), (by first | rfl | (simp; done) | (simp [*]; done)), H', ⟨by have := HJ2.out; have := HK2.out; omega⟩, ⟨by (with_reducible repeat (first | refine blk_drewN ?_ _ | refine blk_drew ?_ | refine blk_alloc ?_ _)); exact BK274.out⟩, ⟨by (with_reducible repeat (first | refine blk_drewN ?_ _ | refine blk_drew ?_ | refine blk_alloc ?_ _)); exact BK275.out⟩, ⟨HB_⟩⟩
end Go.Proofs.Ytgeemdpflcefkaa.Z
