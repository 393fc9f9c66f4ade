-- WRITTEN BY this session's program wip/ext.py, in print.py's manner
import Derived.Test.YtgeemdpflcefkaaZx0
import Derived.Test.YtgeemdpflcefkaaZx2
import Derived.Test.YtgeemdpflcefkaaZx3
import Derived.Test.YtgeemdpflcefkaaZx8
import Derived.Test.YtgeemdpflcefkaaZx20
import Derived.Test.YtgeemdpflcefkaaZx22
namespace Go.Proofs.Ytgeemdpflcefkaa.Z
open Go.RowKit Go.Proofs.YtgeemdpflcefkaaW.PrintWords Go.Proofs.YtgeemdpflcefkaaW.PrintLast Go.Proofs.YtgeemdpflcefkaaW.PrintMore
attribute [local go_sem] max2_int min2_int max_two min_two max_three min_three max_four min_four   -- for this text's walks alone
set_option linter.unusedVariables false
set_option linter.unusedSimpArgs false

/-! ### zone_Join: function 35 -/
def zone_Join.f (k : Nat) (a0_0 : Int) (l0_1 : List Int) (a1_0 : Int) (l1_1 : List Int) : Option (Int × List Int × Int) := (zone_both_v1.f k a0_0 l0_1 a1_0 l1_1 true).bind fun bt227 => (some (bt227.1, bt227.2.1, bt227.2.2))
theorem zone_Join.mono : ∀ a0 a1 a2 a3 k, LeO (zone_Join.f k a0 a1 a2 a3) (zone_Join.f (k + 1) a0 a1 a2 a3) := by
  intro a0 a1 a2 a3 k
  unfold zone_Join.f
  repeat' first
      | (with_reducible exact zone_both_v1.mono _ _ _ _ _ _)
      | (with_reducible exact LeO.refl _)
      | (with_reducible exact LeO.none _)
      | (with_reducible refine LeO.ite ?_ ?_)
      | (with_reducible refine LeO.bind ?_ (fun _ => ?_))
      | exact zone_both_v1.mono _ _ _ _ _ _
      | exact LeO.none _
      | refine LeO.ite ?_ ?_
      | refine LeO.bind ?_ (fun _ => ?_)
set_option maxHeartbeats 8000000 in
set_option maxRecDepth 100000 in
theorem zone_Join.calls (k : Nat) (a0_0 : Int) (A0_1 : Option Addr) (c0_1 : Nat) (l0_1 : List Int) (a1_0 : Int) (A1_1 : Option Addr) (c1_1 : Nat) (l1_1 : List Int) (r1 : Int) (r2 : List Int) (r3 : Int) (w : World) (hr0_1 : Kd.C (Kd.int .i64) w A0_1 l0_1.length l0_1) (hc0_1 : l0_1.length ≤ c0_1) (hr1_1 : Kd.C (Kd.int .i64) w A1_1 l1_1.length l1_1) (hc1_1 : l1_1.length ≤ c1_1) (h : zone_Join.f k a0_0 l0_1 a1_0 l1_1 = some (r1, r2, r3)) :
    Calls Try.prog 35 #[.agg #[.int .i64 a0_0, .slice A0_1 l0_1.length c0_1], .agg #[.int .i64 a1_0, .slice A1_1 l1_1.length c1_1]] w fun e w' => ∃ v1_ : Value, e = .returned (.tuple #[.agg #[.int .i64 r1, v1_], .int .i64 r3]) ∧ Kd.R (Kd.int .i64) 3 w' w.heap.size (fun _ => True) v1_ r2 ∧ Below w.heap.size w w' := by
  have hu24 := Try.underlying24
  have HR0_1 := Aside0.mk hr0_1
  have HC0_1 := Aside0.mk hc0_1
  clear hr0_1 hc0_1
  have HR1_1 := Aside0.mk hr1_1
  have HC1_1 := Aside0.mk hc1_1
  clear hr1_1 hc1_1
  have HB := Aside0.mk (Below.refl w.heap.size w)
  have H : ((zone_both_v1.f k a0_0 l0_1 a1_0 l1_1 true).bind fun bt227 => (some (bt227.1, bt227.2.1, bt227.2.2))) = some (r1, r2, r3) := h
  clear h
  replace H := Option.bind_eq_some_iff.mp H
  obtain ⟨⟨t227, t228, t231⟩, A30, H⟩ := H
  replace H : (some (t227, t228, t231)) = some (r1, r2, r3) := H
  have A3 := Aside0.mk A30
  clear A30
  simp only [Option.some.injEq, Prod.mk.injEq] at H
  obtain ⟨rfl, rfl, rfl⟩ := H
  go_enter Try.func35, Try.ntmps35
  go_wp2_with (first | ((with_reducible refine gate_dst (N := 2) rfl ?_); refine bx_ (N := 2) (cs := #[.int .i64 a0_0, .slice A0_1 l0_1.length c0_1]) (t := 24) ?_; intro gb224 hg w4 hbox hb; have n_ := a_ (bs_ HB hb) (a_ (Aside0.mk hbox) (a_ (gs_ HB hg) (gs_ HB hg))); clear HB; obtain ⟨HB, BK224, GW224, GE224⟩ := n_; clear hb hbox hg) | ((with_reducible refine gate_dst (N := 3) rfl ?_); refine bx_ (N := 3) (cs := #[.int .i64 a1_0, .slice A1_1 l1_1.length c1_1]) (t := 24) ?_; intro gb225 hg w5 hbox hb; have n_ := a_ (bb_ BK224 hb) (a_ (bs_ HB hb) (a_ (Aside0.mk hbox) (a_ (gs_ HB hg) (a_ (gs_ HB hg) (a_ (nl_ BK224 hg) (ng_ BK224 hg)))))); clear BK224 HB; obtain ⟨BK224, HB, BK225, GW225, GE225, NB224_225, NB225_224⟩ := n_; clear hb hbox hg) | ((with_reducible refine gate_dst (N := 4) rfl ?_); refine bx_ (N := 4) (cs := #[.int .i64 0, .slice none 0 0]) (t := 24) ?_; intro gb226 hg w6 hbox hb; have n_ := a_ (bb_ BK224 hb) (a_ (bb_ BK225 hb) (a_ (bs_ HB hb) (a_ (Aside0.mk hbox) (a_ (gs_ HB hg) (a_ (gs_ HB hg) (a_ (nl_ BK224 hg) (a_ (ng_ BK224 hg) (a_ (nl_ BK225 hg) (ng_ BK225 hg))))))))); clear BK224 BK225 HB; obtain ⟨BK224, BK225, HB, BK226, GW226, GE226, NB224_226, NB226_224, NB225_226, NB226_225⟩ := n_; clear hb hbox hg; have hnb7 := NB224_225.out; have hnc7 := NB225_224.out; have hnb8 := NB224_226.out; have hnc8 := NB226_224.out; obtain ⟨hcz9_0, hcz9_1, hfz9_0, hfz9_1⟩ := cz2_ BK224; have hnb10 := NB225_226.out; have hnc10 := NB226_225.out; obtain ⟨hcz11_0, hcz11_1, hfz11_0, hfz11_1⟩ := cz2_ BK225) | ((with_reducible refine gate_callee (f := 77) rfl ?_); refine goesL_ (some 8) rfl rfl Try.func77 (by kernel_rfl) rfl #[.agg #[.int .i64 a0_0, .slice A0_1 l0_1.length c0_1], .agg #[.int .i64 a1_0, .slice A1_1 l1_1.length c1_1], .bool true, .func (.func 78) #[] #[]] rfl MP_ ?_; (with_reducible refine (zone_both_v1.calls k a0_0 _ _ l0_1 a1_0 _ _ l1_1 true t227 t228 t231 _ ?side1 ?side2 ?side3 ?side4 A3.out).mono ?_); (case side1 => exact sd_ (Kd.C_below HR0_1.out HB.out)); (case side2 => exact HC0_1.out); (case side3 => exact sd_ (Kd.C_below HR1_1.out HB.out)); (case side4 => exact HC1_1.out); rintro e w12 ⟨v229, rfl, ho0, hb⟩; refine ⟨_, rfl, ?_⟩; have n_ := a_ (Aside0.mk (Kd.R_lower ho0 (below_size HB_))) (a_ (bb_ BK224 hb) (a_ (bb_ BK225 hb) (a_ (bb_ BK226 hb) (bs_ HB hb)))); clear BK224 BK225 BK226 HB; obtain ⟨HO230, BK224, BK225, BK226, HB⟩ := n_; (try clear hb); (try clear hb2); (try clear hk); (try clear hi); (try clear ho0); obtain ⟨hcz13_0, hcz13_1, hfz13_0, hfz13_1⟩ := cz2_ BK226; obtain ⟨Ao14, co14, eo14⟩ := Kd.R_slice HO230.out; subst eo14))
  refine bodyPost_ret (results_ct rfl _ _ gb226 24 #[.int .i64 t227, .slice Ao14 t228.length co14] (0, 0) _ rfl (bk2_ BK226.out) Try.underlying24 rfl (by kernel_rfl)) rfl ?_
  exact ⟨_, by first | rfl | (simp [errW_none, errW_some] <;> rfl) | (simp [*, errW_none, errW_some] <;> rfl), by (with_reducible repeat (first | apply Kd.R_alloc | apply Kd.R_drewN | apply Kd.R_drew)); exact Kd.R_mono (Kd.R_far (p := ⟨gb226, 1, none⟩) (Kd.R_far (p := ⟨gb226, 0, none⟩) (Kd.R_types HO230.out BK226.out (by decide)) (fun _ hk => hk.2) (.int .i64 t227)) (fun _ hk => hk.2) (.slice Ao14 t228.length co14)) (fun _ hk => trivial), HB_⟩

/-! ### zone_mixed_v2: function 102 -/
def zone_mixed_v2.l0 : Nat → List Int → Int → Int → Int → List Int → Int → List Int → Option (Int × List Int)
  | 0, _, _, _, _, _, _, _ => none
  | k + 1, x7, x15, x16, x233000, x233001, x234000, x234001 => if x16 < x15 then (if 0 ≤ x16 then (if x16 < (x7.length : Int) then (if x16 < (x234001.length : Int) then ((zone_Widen_1.f (rd x7 x16) (rd x234001 x16)).bind fun t240 => (zone_mixed_v2.l0 k (x7.set (x16 : Int).toNat t240) x15 (wrap64 (x16 + 1)) x233000 x233001 x234000 x234001)) else (none)) else (none)) else (none)) else ((dbm_Close.f k x233000 x7).bind fun bt242 => (some (bt242.1, bt242.2.1)))
def zone_mixed_v2.f (k : Nat) (a0_0 : Int) (l0_1 : List Int) (a1_0 : Int) (l1_1 : List Int) : Option (Int × List Int) := (slices_Clone_int_int.f l0_1).bind fun t235 => (zone_mixed_v2.l0 k t235 (t235.length : Int) 0 a0_0 l0_1 a1_0 l1_1)
theorem zone_mixed_v2.mono_l : ∀ k, (∀ y0 y1 y2 y3 y4 y5 y6, LeO (zone_mixed_v2.l0 k y0 y1 y2 y3 y4 y5 y6) (zone_mixed_v2.l0 (k + 1) y0 y1 y2 y3 y4 y5 y6))
  | 0 => fun _ _ _ _ _ _ _ r h => by simp [zone_mixed_v2.l0] at h
  | k + 1 => by
    have ih0 := zone_mixed_v2.mono_l k
    · intro y0 y1 y2 y3 y4 y5 y6
      unfold zone_mixed_v2.l0
      repeat' first
      | (with_reducible exact ih0 _ _ _ _ _ _ _)
      | (with_reducible exact dbm_Close.mono _ _ _)
      | (with_reducible exact LeO.refl _)
      | (with_reducible exact LeO.none _)
      | (with_reducible refine LeO.ite ?_ ?_)
      | (with_reducible refine LeO.bind ?_ (fun _ => ?_))
      | exact ih0 _ _ _ _ _ _ _
      | exact dbm_Close.mono _ _ _
      | exact LeO.none _
      | refine LeO.ite ?_ ?_
      | refine LeO.bind ?_ (fun _ => ?_)
theorem zone_mixed_v2.mono : ∀ a0 a1 a2 a3 k, LeO (zone_mixed_v2.f k a0 a1 a2 a3) (zone_mixed_v2.f (k + 1) a0 a1 a2 a3) := by
  intro a0 a1 a2 a3 k
  have ih0 := zone_mixed_v2.mono_l k
  unfold zone_mixed_v2.f
  repeat' first
      | (with_reducible exact ih0 _ _ _ _ _ _ _)
      | (with_reducible exact dbm_Close.mono _ _ _)
      | (with_reducible exact LeO.refl _)
      | (with_reducible exact LeO.none _)
      | (with_reducible refine LeO.ite ?_ ?_)
      | (with_reducible refine LeO.bind ?_ (fun _ => ?_))
      | exact ih0 _ _ _ _ _ _ _
      | exact dbm_Close.mono _ _ _
      | exact LeO.none _
      | refine LeO.ite ?_ ?_
      | refine LeO.bind ?_ (fun _ => ?_)
def zone_mixed_v2.T5 : Bool × List (List Nat × List Nat) := (true, [([], []), ([], []), ([], []), ([], []), ([], []), ([3, 4], [3, 4]), ([5], [5]), ([], []), ([7], [7]), ([], []), ([8, 9], [8, 9]), ([10], [10]), ([2, 6, 11], [2, 6, 11]), ([0, 1, 0, 1, 2, 3, 4, 5, 6, 7, 8, 9, 10, 11, 12], [0, 1]), ([13, 12, 12, 0, 1, 2, 3, 4, 5, 6, 7, 8, 9, 10, 11, 12], [12, 13])])
def zone_mixed_v2.B5 : List Nat := [0, 0, 0, 0, 0, 24, 56, 0, 128, 0, 896, 1920, 4092, 8191, 16383]
theorem zone_mixed_v2.tab5 : rtab .any (opsOf Try.f102 5) = zone_mixed_v2.T5 := by kernel_rfl
theorem zone_mixed_v2.bits5 : waitsOk zone_mixed_v2.T5.2 zone_mixed_v2.B5 = true := by kernel_rfl
set_option maxHeartbeats 8000000 in
set_option maxRecDepth 100000 in
theorem zone_mixed_v2.calls (k : Nat) (a0_0 : Int) (A0_1 : Option Addr) (c0_1 : Nat) (l0_1 : List Int) (a1_0 : Int) (A1_1 : Option Addr) (c1_1 : Nat) (l1_1 : List Int) (r1 : Int) (r2 : List Int) (w : World) (hr0_1 : Kd.C (Kd.int .i64) w A0_1 l0_1.length l0_1) (hc0_1 : l0_1.length ≤ c0_1) (hr1_1 : Kd.C (Kd.int .i64) w A1_1 l1_1.length l1_1) (hc1_1 : l1_1.length ≤ c1_1) (h : zone_mixed_v2.f k a0_0 l0_1 a1_0 l1_1 = some (r1, r2)) :
    Calls Try.prog 102 #[.agg #[.int .i64 a0_0, .slice A0_1 l0_1.length c0_1], .agg #[.int .i64 a1_0, .slice A1_1 l1_1.length c1_1], .func (.func 82) #[] #[]] w fun e w' => ∃ v1_ : Value, e = .returned (.agg #[.int .i64 r1, v1_]) ∧ Kd.R (Kd.int .i64) 3 w' w.heap.size (fun _ => True) v1_ r2 ∧ Below w.heap.size w w' := by
  have hu24 := Try.underlying24
  have HR0_1 := Aside0.mk hr0_1
  have HC0_1 := Aside0.mk hc0_1
  clear hr0_1 hc0_1
  have HR1_1 := Aside0.mk hr1_1
  have HC1_1 := Aside0.mk hc1_1
  clear hr1_1 hc1_1
  have HB := Aside0.mk (Below.refl w.heap.size w)
  have H : ((slices_Clone_int_int.f l0_1).bind fun t235 => (zone_mixed_v2.l0 k t235 (t235.length : Int) 0 a0_0 l0_1 a1_0 l1_1)) = some (r1, r2) := h
  clear h
  replace H := Option.bind_eq_some_iff.mp H
  obtain ⟨t235, A30, H⟩ := H
  replace H : (zone_mixed_v2.l0 k t235 (t235.length : Int) 0 a0_0 l0_1 a1_0 l1_1) = some (r1, r2) := H
  have A3 := Aside0.mk A30
  clear A30
  have H' := Aside0.mk H
  clear H
  go_enter Try.func102, Try.ntmps102
  go_wp2_with (first | ((with_reducible refine gate_dst (N := 3) rfl ?_); refine bx_ (N := 3) (cs := #[.int .i64 a0_0, .slice A0_1 l0_1.length c0_1]) (t := 24) ?_; intro gb232 hg w4 hbox hb; have n_ := a_ (bs_ HB hb) (a_ (Aside0.mk hbox) (a_ (gs_ HB hg) (gs_ HB hg))); clear HB; obtain ⟨HB, BK232, GW232, GE232⟩ := n_; clear hb hbox hg) | ((with_reducible refine gate_dst (N := 4) rfl ?_); refine bx_ (N := 4) (cs := #[.int .i64 a1_0, .slice A1_1 l1_1.length c1_1]) (t := 24) ?_; intro gb233 hg w5 hbox hb; have n_ := a_ (bb_ BK232 hb) (a_ (bs_ HB hb) (a_ (Aside0.mk hbox) (a_ (gs_ HB hg) (a_ (gs_ HB hg) (a_ (nl_ BK232 hg) (ng_ BK232 hg)))))); clear BK232 HB; obtain ⟨BK232, HB, BK233, GW233, GE233, NB232_233, NB233_232⟩ := n_; clear hb hbox hg) | ((with_reducible refine gate_dst (N := 6) rfl ?_); refine bx_ (N := 6) (cs := #[.int .i64 0, .slice none 0 0]) (t := 24) ?_; intro gb234 hg w6 hbox hb; have n_ := a_ (bb_ BK232 hb) (a_ (bb_ BK233 hb) (a_ (bs_ HB hb) (a_ (Aside0.mk hbox) (a_ (gs_ HB hg) (a_ (gs_ HB hg) (a_ (nl_ BK232 hg) (a_ (ng_ BK232 hg) (a_ (nl_ BK233 hg) (ng_ BK233 hg))))))))); clear BK232 BK233 HB; obtain ⟨BK232, BK233, HB, BK234, GW234, GE234, NB232_234, NB234_232, NB233_234, NB234_233⟩ := n_; clear hb hbox hg; have hnb7 := NB232_233.out; have hnc7 := NB233_232.out; have hnb8 := NB232_234.out; have hnc8 := NB234_232.out; obtain ⟨hcz9_0, hcz9_1, hfz9_0, hfz9_1⟩ := cz2_ BK232) | ((with_reducible refine gate_callee (f := 85) rfl ?_); refine goesL_ (some 13) rfl rfl Try.func85 (by kernel_rfl) rfl #[.slice A0_1 l0_1.length c0_1] rfl MP_ ?_; (with_reducible refine (slices_Clone_int_int.calls _ _ l0_1 t235 _ ?side1 ?side2 A3.out).mono ?_); (case side1 => exact sd_ (Kd.C_below HR0_1.out HB.out)); (case side2 => exact HC0_1.out); rintro e w10 ⟨v236, rfl, ho0, hb⟩; refine ⟨_, rfl, ?_⟩; have n_ := a_ (Aside0.mk (Kd.R_lower ho0 (below_size HB_))) (a_ (bb_ BK232 hb) (a_ (bb_ BK233 hb) (a_ (bb_ BK234 hb) (bs_ HB hb)))); clear BK232 BK233 BK234 HB; obtain ⟨HO237, BK232, BK233, BK234, HB⟩ := n_; (try clear hb); (try clear hb2); (try clear hk); (try clear hi); (try clear ho0); obtain ⟨Ao11, co11, eo11⟩ := Kd.R_slice HO237.out; subst eo11))
  go_loopg [16] k (fun kq v16 w' => ∃ (x7_1 : List Int) (x16_1 : Int), v16 = .int .i64 x16_1 ∧ Aside0 (zone_mixed_v2.l0 kq x7_1 (t235.length : Int) x16_1 a0_0 l0_1 a1_0 l1_1 = some (r1, r2)) ∧ Aside0 (kq ≤ k) ∧ Aside0 (Kd.R (Kd.int .i64) 3 w' w.heap.size (fun _ => True) (.slice Ao11 t235.length co11) x7_1) ∧ Aside0 (w'.heap[gb232]? = some (.cells #[.int .i64 a0_0, (.slice A0_1 l0_1.length c0_1)] 24 (0, 0))) ∧ Aside0 (w'.heap[gb233]? = some (.cells #[.int .i64 a1_0, (.slice A1_1 l1_1.length c1_1)] 24 (0, 0))) ∧ Aside0 (w'.heap[gb234]? = some (.cells #[.int .i64 0, (.slice none 0 0)] 24 (0, 0))) ∧ Aside0 (Below w.heap.size w w'))
  case atStart => exact ⟨(t235), (0), (by first | rfl | (simp; done) | (simp [*]; done)), H', ⟨Nat.le_refl _⟩, ⟨by (with_reducible repeat (first | apply Kd.R_alloc | apply Kd.R_drewN | apply Kd.R_drew)); exact HO237.out⟩, ⟨by (with_reducible repeat (first | refine blk_drewN ?_ _ | refine blk_drew ?_ | refine blk_alloc ?_ _)); exact BK232.out⟩, ⟨by (with_reducible repeat (first | refine blk_drewN ?_ _ | refine blk_drew ?_ | refine blk_alloc ?_ _)); exact BK233.out⟩, ⟨by (with_reducible repeat (first | refine blk_drewN ?_ _ | refine blk_drew ?_ | refine blk_alloc ?_ _)); exact BK234.out⟩, ⟨HB_⟩⟩
  case round =>
    clear H'
    try clear c1
    try clear p2
    try clear c7
    try clear c8
    try clear c10
    try clear hcz9_0
    try clear hcz9_1
    try clear hfz9_0
    try clear hfz9_1
    obtain ⟨x7_1, x16_1, rfl, HA, HK1, HO_7, BK232, BK233, BK234, HB⟩ := hrel
    have hl7_1 := (Kd.R_reads' HO_7.out).1
    rw [hl7_1] at HO_7
    (try simp only [hl7_1])
    (try simp only [hl7_1] at BK232)
    (try simp only [hl7_1] at BK233)
    (try simp only [hl7_1] at BK234)
    cases gk with
    | zero => exact absurd HA.out (by simp [zone_mixed_v2.l0])
    | succ k1 =>
      have H := HA.out
      clear HA
      simp only [zone_mixed_v2.l0] at H
      by_cases c12 : x16_1 < (t235.length : Int)
      rotate_left
      · rw [if_neg c12] at H
        have c12b0 : decide (x16_1 < (t235.length : Int)) = false := decide_eq_false c12
        (try simp only [hl7_1] at c12b0)
        clear c12
        replace H := Option.bind_eq_some_iff.mp H
        obtain ⟨⟨t242, t243, t246⟩, A200, H⟩ := H
        replace H : (some (t242, t243)) = some (r1, r2) := H
        have A20 := Aside0.mk A200
        clear A200
        simp only [Option.some.injEq, Prod.mk.injEq] at H
        obtain ⟨rfl, rfl⟩ := H
        have hnb21 := NB232_233.out
        have hnc21 := NB233_232.out
        have hnb22 := NB232_234.out
        have hnc22 := NB234_232.out
        obtain ⟨hcz23_0, hcz23_1, hfz23_0, hfz23_1⟩ := cz2_ BK232
        go_wp2_with (first | ((with_reducible refine gate_callee (f := 88) rfl ?_); refine goesL_ (some 38) rfl rfl Try.func88 (by kernel_rfl) rfl #[.int .i64 a0_0, .slice Ao11 x7_1.length co11] rfl MP_ ?_; (with_reducible refine (dbm_Close.calls k1 a0_0 _ _ x7_1 t242 t243 t246 _ ?side1 ?side2 A20.out).mono ?_); (case side1 => repeat (first | exact (Kd.R_reads' HO_7.out).2.2 | (with_reducible refine Kd.C_alloc ?_ _) | (with_reducible refine Kd.C_drewN ?_ _) | (with_reducible refine Kd.C_drew ?_))); (case side2 => exact (Kd.R_reads' HO_7.out).2.1); rintro e w24 ⟨v244, rfl, ho0, hb⟩; refine ⟨_, rfl, ?_⟩; have n_ := a_ (Aside0.mk (Kd.R_elder' (rd_ HO_7.out) (Kd.R_base ho0) hb)) (a_ (Aside0.mk (Kd.R_lower (Kd.R_new' ho0 (Kd.R_lt (rd_ HO_7.out))) (below_size HB_))) (a_ (bb_ BK232 hb) (a_ (bb_ BK233 hb) (a_ (bb_ BK234 hb) (bs_ HB hb))))); clear HO_7 BK232 BK233 BK234 HB; obtain ⟨HO_7, HO245, BK232, BK233, BK234, HB⟩ := n_; (try clear hb); (try clear hb2); (try clear hk); (try clear hi); (try clear ho0)) | ((with_reducible refine gate_dst (N := 9) rfl ?_); refine bx_ (N := 9) (cs := #[.int .i64 0, .slice none 0 0]) (t := 24) ?_; intro gb247 hg w25 hbox hb; have n_ := a_ (rb_ HO_7 hb) (a_ (rb_ HO245 hb) (a_ (bb_ BK232 hb) (a_ (bb_ BK233 hb) (a_ (bb_ BK234 hb) (a_ (bs_ HB hb) (a_ (Aside0.mk hbox) (a_ (gs_ HB hg) (a_ (gs_ HB hg) (a_ (nl_ BK232 hg) (a_ (ng_ BK232 hg) (a_ (nl_ BK233 hg) (a_ (ng_ BK233 hg) (a_ (nl_ BK234 hg) (ng_ BK234 hg)))))))))))))); clear HO_7 HO245 BK232 BK233 BK234 HB; obtain ⟨HO_7, HO245, BK232, BK233, BK234, HB, BK247, GW247, GE247, NB232_247, NB247_232, NB233_247, NB247_233, NB234_247, NB247_234⟩ := n_; clear hb hbox hg; have hnb26 := NB247_232.out; have hnc26 := NB232_247.out; have hnb27 := NB247_233.out; have hnc27 := NB233_247.out; have hnb28 := NB247_234.out; have hnc28 := NB234_247.out; obtain ⟨hcz29_0, hcz29_1, hfz29_0, hfz29_1⟩ := cz2_ BK247; obtain ⟨Ao30, co30, eo30⟩ := Kd.R_slice HO245.out; subst eo30; have hnb31 := NB234_233.out; have hnc31 := NB233_234.out; obtain ⟨hcz32_0, hcz32_1, hfz32_0, hfz32_1⟩ := cz2_ BK234))
        refine bodyPost_ret (results_cell_row rfl _ _ gb234 24 #[.int .i64 t242, .slice Ao30 t243.length co30] (0, 0) _ rfl (bk2_ BK234.out) Try.underlying24 rfl (by kernel_rfl)) rfl ?_
        exact ⟨_, by first | rfl | (simp [errW_none, errW_some] <;> rfl) | (simp [*, errW_none, errW_some] <;> rfl), by (with_reducible repeat (first | apply Kd.R_alloc | apply Kd.R_drewN | apply Kd.R_drew)); exact Kd.R_mono (Kd.R_far (p := ⟨gb234, 1, none⟩) (Kd.R_far (p := ⟨gb234, 0, none⟩) (Kd.R_far (p := ⟨gb247, 1, none⟩) (Kd.R_far (p := ⟨gb247, 0, none⟩) (Kd.R_types (Kd.R_types HO245.out BK247.out (by decide)) BK234.out (by decide)) (fun _ hk => hk.1.2) (.int .i64 t242)) (fun _ hk => hk.1.2) (.slice Ao30 t243.length co30)) (fun _ hk => hk.2) (.int .i64 t242)) (fun _ hk => hk.2) (.slice Ao30 t243.length co30)) (fun _ hk => trivial), HB_⟩

      rw [if_pos c12] at H
      have c12b0 : decide (x16_1 < (t235.length : Int)) = true := decide_eq_true c12
      (try simp only [hl7_1] at c12b0)
      clear c12
      replace H := yes_ H
      obtain ⟨c13, H⟩ := H
      have c13b0 : decide (0 ≤ x16_1) = true := decide_eq_true c13
      clear c13
      replace H := yes_ H
      obtain ⟨c14, H⟩ := H
      have c14b0 : decide (x16_1 < (x7_1.length : Int)) = true := decide_eq_true c14
      (try simp only [hl7_1] at c14b0)
      clear c14
      replace H := yes_ H
      obtain ⟨c15, H⟩ := H
      have c15b0 : decide (x16_1 < (l1_1.length : Int)) = true := decide_eq_true c15
      (try simp only [hl7_1] at c15b0)
      clear c15
      replace H := Option.bind_eq_some_iff.mp H
      obtain ⟨t240, A160, H⟩ := H
      replace H : (zone_mixed_v2.l0 k1 (x7_1.set (x16_1 : Int).toNat t240) (t235.length : Int) (wrap64 (x16_1 + 1)) a0_0 l0_1 a1_0 l1_1) = some (r1, r2) := H
      have A16 := Aside0.mk A160
      clear A160
      obtain ⟨y241, hy241⟩ : ∃ y_ : List Int, y_ = (x7_1.set (x16_1 : Int).toNat t240) := ⟨_, rfl⟩
      replace H : (zone_mixed_v2.l0 k1 y241 (t235.length : Int) (wrap64 (x16_1 + 1)) a0_0 l0_1 a1_0 l1_1) = some (r1, r2) := by first | (rw [hy241]; with_reducible exact H) | (have H2_ := (Option.bind_some _ _).symm.trans H; rw [hy241]; with_reducible exact H2_) | (have H2_ := (Option.bind_some _ _).symm.trans H; with_reducible exact H2_) | with_reducible exact H | (rw [hy241]; exact H) | exact H
      have Ny241 := Aside0.mk hy241
      clear hy241
      have H' := Aside0.mk H
      clear H
      try go_wp2
      have n_ := a_ (Aside0.mk (Kd.R_drew HO_7.out)) (a_ (Aside0.mk (blk_drew BK232.out)) (a_ (Aside0.mk (blk_drew BK233.out)) (a_ (Aside0.mk (blk_drew BK234.out)) (Aside0.mk (below_drew1 HB.out)))))
      clear HO_7 BK232 BK233 BK234 HB
      obtain ⟨HO_7, BK232, BK233, BK234, HB⟩ := n_
      have p238 : 0 ≤ (x16_1 : Int) := of_decide_eq_true (by first | (with_reducible assumption) | assumption)
      have q238 : x16_1 < (x7_1.length : Int) := of_decide_eq_true (by first | (with_reducible assumption) | assumption)
      obtain ⟨ad238, e238, hx238_0⟩ := Kd.at_int (Kd.R_reads' HO_7.out).2.2 x16_1 p238 q238
      cases e238
      replace p238 := eq_true p238
      replace q238 := eq_true q238
      have p239 : 0 ≤ (x16_1 : Int) := of_decide_eq_true (by first | (with_reducible assumption) | assumption)
      have q239 : x16_1 < (l1_1.length : Int) := of_decide_eq_true (by first | (with_reducible assumption) | assumption)
      obtain ⟨ad239, e239, hx239_0⟩ := Kd.at_int HR1_1.out x16_1 p239 q239
      have hw239_0 := hx239_0
      cases e239
      first | (replace hx239_0 := (HB.out.cell (World.block_lt_of_cell? w _ hx239_0)).trans hx239_0) | skip
      replace p239 := eq_true p239
      replace q239 := eq_true q239
      refine start_ (n := 15) (S := fun w' => w'.cell? ⟨gb233, 0, none⟩ = some (.int .i64 a1_0) ∧ w'.cell? ⟨gb233, 1, none⟩ = some (.slice (some ad239) l1_1.length c1_1) ∧ w'.cell? (ad238.add (x16_1).toNat) = some (.int .i64 (rd x7_1 x16_1)) ∧ w'.cell? (ad239.add (x16_1).toNat) = some (.int .i64 (rd l1_1 x16_1))) (ds := [14]) #[false, false, false, false, false, false, false, false, false, false, false, false, false, false, false] (by kernel_rfl) rfl rfl ⟨(blk_cell BK233.out 0).trans rfl, (blk_cell BK233.out 1).trans rfl, hx238_0, ((HB.out.cell (World.block_lt_of_cell? w _ hw239_0)).trans hw239_0)⟩ (fun hHeld => ?_); refine with_tabW zone_mixed_v2.tab5 zone_mixed_v2.bits5 (fun HT_ HW_ => ?_)
      generalize wr.drew = w18 at HO_7 BK232 BK233 BK234 HB hx238_0 hx239_0 hHeld ⊢
      refine pu_ 0 (some 19) ?_
      refine pu_ 1 (some 20) ?_
      refine pu_ 2 (some 21) ?_
      refine pu_ 3 (some 22) ?_
      refine pu_ 4 (some 23) ?_
      refine pu_ 5 (some 24) ?_
      refine pu_ 7 (some 26) ?_
      refine pu_ 9 (some 28) ?_
      refine take_ (i := 6) (N := some 25) (v := ?_) (a' := ?_) #[true, true, true, true, true, true, true, true, false, true, false, false, false, false, false] rfl rfl (take_ofW HT_.out HW_.out (by kernel_rfl)) (fun _ _ _ h => h) (Or.inl ⟨by rfl, ?_⟩) hHeld ?_ ?_
      rotate_left
      · rintro w' ⟨s0, s1, s2, s3⟩
        go_simp
        with_reducible rfl
      rotate_left
      · exact AP_
      refine take_ (i := 8) (N := some 27) (v := ?_) (a' := ?_) #[true, true, true, true, true, true, true, true, true, true, false, false, false, false, false] rfl rfl (take_ofW HT_.out HW_.out (by kernel_rfl)) (fun _ _ _ h => h) (Or.inl ⟨by rfl, ?_⟩) hHeld ?_ ?_
      rotate_left
      · rintro w' ⟨s0, s1, s2, s3⟩
        go_simp
        with_reducible rfl
      rotate_left
      · exact AP_
      refine pu_ 10 (some 29) ?_
      refine take_ (i := 11) (N := some 30) (v := ?_) (a' := ?_) #[true, true, true, true, true, true, true, true, true, true, true, true, false, false, false] rfl rfl (take_ofW HT_.out HW_.out (by kernel_rfl)) (fun _ _ _ h => h) (Or.inl ⟨by rfl, ?_⟩) hHeld ?_ ?_
      rotate_left
      · rintro w' ⟨s0, s1, s2, s3⟩
        go_simp
        with_reducible rfl
      rotate_left
      · exact AP_
      refine on_ 12 (some 31) (fun K hK => ?_)
      refine goesV_ #[] #[.int .i64 (rd x7_1 x16_1), .int .i64 (rd l1_1 x16_1)] (enters_ Try.func82 (by kernel_rfl) rfl _ _) (by rfl) rfl rfl (by rfl) MP_ ?_
      rw [show (#[.int .i64 (rd x7_1 x16_1), .int .i64 (rd l1_1 x16_1)] : Array Value) ++ #[] = #[.int .i64 (rd x7_1 x16_1), .int .i64 (rd l1_1 x16_1)] from rfl]
      with_reducible refine (zone_Widen_1.calls (rd x7_1 x16_1) (rd l1_1 x16_1) t240 _ A16.out).mono ?_
      rintro e w' ⟨rfl, ⟨nd, rfl⟩⟩
      refine ⟨_, rfl, ?_⟩
      have p17 : 0 ≤ (x16_1 : Int) := of_decide_eq_true (by first | (with_reducible assumption) | assumption)
      have q17 : (x16_1 : Int) < ((x7_1.length : Int) : Int) := of_decide_eq_true (by first | (with_reducible assumption) | assumption)
      obtain ⟨go17, co17, eo17, gb17, gl17, cl17, HG17⟩ := Kd.R_form HO_7.out (by omega)
      (first | cases eo17 | (injection eo17 with ea_ en_ ec_; (first | subst ea_ | (injection ea_ with ea_; subst ea_)); subst ec_; clear en_))
      have GB17 := Aside0.mk gb17
      have GG17 := Aside0.mk HG17
      clear gb17 gl17 HG17
      (first | simp only [add_plain] at hx238_0 | skip)
      obtain ⟨hx17_0, hf17_0⟩ := Kd.R_celln 0 HO_7.out (x16_1 : Int) p17 q17
      replace p17 := eq_true p17
      replace q17 := eq_true q17
      have HP19 := Kd.R_putn HO_7.out (x16_1 : Int) t240
      rw [← Ny241.out] at HP19
      have HQ19 := Aside0.mk HP19
      clear HP19
      refine hK.out _ _ ⟨(blk_cell BK233.out 0).trans rfl, (blk_cell BK233.out 1).trans rfl, hHeld.2.2.1, ((HB.out.cell (World.block_lt_of_cell? w _ hw239_0)).trans hw239_0)⟩ (fun hHeld => ?_)
      clear hK K
      refine nm_ ?_
      refine pu_ 13 (some 32) ?_
      refine last_ (i := 14) (N := none) #[true, true, true, true, true, true, true, true, true, true, true, true, true, true, true] rfl rfl (one_of HT_.out (by kernel_rfl)) (by decide) (fun K hK => ?_)
      refine skip_ (w1 := ?_) (by rfl) rfl ?_ ?_
      rotate_left
      · go_simp
        rfl
      refine hK.out _ _ ?_
      clear hK K
      refine done_ (done_of HT_.out (by kernel_rfl)) ?_
      try go_wp2
      (try simp only [← hl7_1])
      go_roundg k1
      case measure => have := HK1.out; omega
      case rel => exact ⟨(y241), (wrap64 (x16_1 + 1)), (by first | rfl | (simp; done) | (simp [*]; done)), H', ⟨by have := HK1.out; omega⟩, ⟨by (try simp only [hl7_1]); (with_reducible repeat (first | apply Kd.R_alloc | apply Kd.R_drewN | apply Kd.R_drew)); exact HQ19.out⟩, ⟨by (try simp only [hl7_1]); (with_reducible repeat (first | refine blk_drewN ?_ _ | refine blk_drew ?_ | refine blk_alloc ?_ _)); refine blk_far ?_ (by have h_ := Kd.R_ne HO_7.out BK232.out (by decide); intro e_; exact h_ (by rw [e_]; rfl)) _; (with_reducible repeat (first | refine blk_drewN ?_ _ | refine blk_drew ?_ | refine blk_alloc ?_ _)); exact BK232.out⟩, ⟨by (try simp only [hl7_1]); (with_reducible repeat (first | refine blk_drewN ?_ _ | refine blk_drew ?_ | refine blk_alloc ?_ _)); refine blk_far ?_ (by have h_ := Kd.R_ne HO_7.out BK233.out (by decide); intro e_; exact h_ (by rw [e_]; rfl)) _; (with_reducible repeat (first | refine blk_drewN ?_ _ | refine blk_drew ?_ | refine blk_alloc ?_ _)); exact BK233.out⟩, ⟨by (try simp only [hl7_1]); (with_reducible repeat (first | refine blk_drewN ?_ _ | refine blk_drew ?_ | refine blk_alloc ?_ _)); refine blk_far ?_ (by have h_ := Kd.R_ne HO_7.out BK234.out (by decide); intro e_; exact h_ (by rw [e_]; rfl)) _; (with_reducible repeat (first | refine blk_drewN ?_ _ | refine blk_drew ?_ | refine blk_alloc ?_ _)); exact BK234.out⟩, ⟨by repeat (first | (with_reducible first | exact HB.out | apply below_alloc | apply pw_below_drewN | apply below_drew1 | refine below_set ?_ GB17.out | refine below_set ?_ GE232.out | refine below_set ?_ GE233.out | refine below_set ?_ GE234.out) | exact HB.out)⟩⟩
end Go.Proofs.Ytgeemdpflcefkaa.Z
