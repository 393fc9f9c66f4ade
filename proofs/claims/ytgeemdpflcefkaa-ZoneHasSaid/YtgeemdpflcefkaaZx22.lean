-- WRITTEN BY this session's program wip/ext.py, in print.py's manner
import Derived.Test.YtgeemdpflcefkaaZx0
import Derived.Test.YtgeemdpflcefkaaZx2
import Derived.Test.YtgeemdpflcefkaaZx3
import Derived.Test.YtgeemdpflcefkaaZx8
import Derived.Test.YtgeemdpflcefkaaZx20
namespace Go.Proofs.Ytgeemdpflcefkaa.Z
open Go.RowKit Go.Proofs.YtgeemdpflcefkaaW.PrintWords Go.Proofs.YtgeemdpflcefkaaW.PrintLast Go.Proofs.YtgeemdpflcefkaaW.PrintMore
attribute [local go_sem] max2_int min2_int max_two min_two max_three min_three max_four min_four   -- for this text's walks alone
set_option linter.unusedVariables false
set_option linter.unusedSimpArgs false

/-! ### zone_mixed_v1: function 102 -/
def zone_mixed_v1.l0 : Nat → List Int → Int → Int → Int → List Int → Int → List Int → Option (Int × List Int)
  | 0, _, _, _, _, _, _, _ => none
  | k + 1, x7, x15, x16, x191000, x191001, x192000, x192001 => if x16 < x15 then (if 0 ≤ x16 then (if x16 < (x7.length : Int) then (if x16 < (x192001.length : Int) then ((zone_Join_1.f (rd x7 x16) (rd x192001 x16)).bind fun t198 => (zone_mixed_v1.l0 k (x7.set (x16 : Int).toNat t198) x15 (wrap64 (x16 + 1)) x191000 x191001 x192000 x192001)) else (none)) else (none)) else (none)) else ((dbm_Close.f k x191000 x7).bind fun bt200 => (some (bt200.1, bt200.2.1)))
def zone_mixed_v1.f (k : Nat) (a0_0 : Int) (l0_1 : List Int) (a1_0 : Int) (l1_1 : List Int) : Option (Int × List Int) := (slices_Clone_int_int.f l0_1).bind fun t193 => (zone_mixed_v1.l0 k t193 (t193.length : Int) 0 a0_0 l0_1 a1_0 l1_1)
theorem zone_mixed_v1.mono_l : ∀ k, (∀ y0 y1 y2 y3 y4 y5 y6, LeO (zone_mixed_v1.l0 k y0 y1 y2 y3 y4 y5 y6) (zone_mixed_v1.l0 (k + 1) y0 y1 y2 y3 y4 y5 y6))
  | 0 => fun _ _ _ _ _ _ _ r h => by simp [zone_mixed_v1.l0] at h
  | k + 1 => by
    have ih0 := zone_mixed_v1.mono_l k
    · intro y0 y1 y2 y3 y4 y5 y6
      unfold zone_mixed_v1.l0
      repeat' first
      | (with_reducible exact ih0 _ _ _ _ _ _ _)
      | (with_reducible exact dbm_Close.mono _ _ _)
      | (with_reducible exact LeO.refl _)
      | (with_reducible exact LeO.none _)
      | (with_reducible refine LeO.ite ?_ ?_)
      | (with_reducible refine LeO.bind ?_ (fun _ => ?_))
      | exact ih0 _ _ _ _ _ _ _
      | exact dbm_Close.mono _ _ _
      | exact LeO.none _
      | refine LeO.ite ?_ ?_
      | refine LeO.bind ?_ (fun _ => ?_)
theorem zone_mixed_v1.mono : ∀ a0 a1 a2 a3 k, LeO (zone_mixed_v1.f k a0 a1 a2 a3) (zone_mixed_v1.f (k + 1) a0 a1 a2 a3) := by
  intro a0 a1 a2 a3 k
  have ih0 := zone_mixed_v1.mono_l k
  unfold zone_mixed_v1.f
  repeat' first
      | (with_reducible exact ih0 _ _ _ _ _ _ _)
      | (with_reducible exact dbm_Close.mono _ _ _)
      | (with_reducible exact LeO.refl _)
      | (with_reducible exact LeO.none _)
      | (with_reducible refine LeO.ite ?_ ?_)
      | (with_reducible refine LeO.bind ?_ (fun _ => ?_))
      | exact ih0 _ _ _ _ _ _ _
      | exact dbm_Close.mono _ _ _
      | exact LeO.none _
      | refine LeO.ite ?_ ?_
      | refine LeO.bind ?_ (fun _ => ?_)
def zone_mixed_v1.T5 : Bool × List (List Nat × List Nat) := (true, [([], []), ([], []), ([], []), ([], []), ([], []), ([3, 4], [3, 4]), ([5], [5]), ([], []), ([7], [7]), ([], []), ([8, 9], [8, 9]), ([10], [10]), ([2, 6, 11], [2, 6, 11]), ([0, 1, 0, 1, 2, 3, 4, 5, 6, 7, 8, 9, 10, 11, 12], [0, 1]), ([13, 12, 12, 0, 1, 2, 3, 4, 5, 6, 7, 8, 9, 10, 11, 12], [12, 13])])
def zone_mixed_v1.B5 : List Nat := [0, 0, 0, 0, 0, 24, 56, 0, 128, 0, 896, 1920, 4092, 8191, 16383]
theorem zone_mixed_v1.tab5 : rtab .any (opsOf Try.f102 5) = zone_mixed_v1.T5 := by kernel_rfl
theorem zone_mixed_v1.bits5 : waitsOk zone_mixed_v1.T5.2 zone_mixed_v1.B5 = true := by kernel_rfl
set_option maxHeartbeats 8000000 in
set_option maxRecDepth 100000 in
theorem zone_mixed_v1.calls (k : Nat) (a0_0 : Int) (A0_1 : Option Addr) (c0_1 : Nat) (l0_1 : List Int) (a1_0 : Int) (A1_1 : Option Addr) (c1_1 : Nat) (l1_1 : List Int) (r1 : Int) (r2 : List Int) (w : World) (hr0_1 : Kd.C (Kd.int .i64) w A0_1 l0_1.length l0_1) (hc0_1 : l0_1.length ≤ c0_1) (hr1_1 : Kd.C (Kd.int .i64) w A1_1 l1_1.length l1_1) (hc1_1 : l1_1.length ≤ c1_1) (h : zone_mixed_v1.f k a0_0 l0_1 a1_0 l1_1 = some (r1, r2)) :
    Calls Try.prog 102 #[.agg #[.int .i64 a0_0, .slice A0_1 l0_1.length c0_1], .agg #[.int .i64 a1_0, .slice A1_1 l1_1.length c1_1], .func (.func 78) #[] #[]] w fun e w' => ∃ v1_ : Value, e = .returned (.agg #[.int .i64 r1, v1_]) ∧ Kd.R (Kd.int .i64) 3 w' w.heap.size (fun _ => True) v1_ r2 ∧ Below w.heap.size w w' := by
  have hu24 := Try.underlying24
  have HR0_1 := Aside0.mk hr0_1
  have HC0_1 := Aside0.mk hc0_1
  clear hr0_1 hc0_1
  have HR1_1 := Aside0.mk hr1_1
  have HC1_1 := Aside0.mk hc1_1
  clear hr1_1 hc1_1
  have HB := Aside0.mk (Below.refl w.heap.size w)
  have H : ((slices_Clone_int_int.f l0_1).bind fun t193 => (zone_mixed_v1.l0 k t193 (t193.length : Int) 0 a0_0 l0_1 a1_0 l1_1)) = some (r1, r2) := h
  clear h
  replace H := Option.bind_eq_some_iff.mp H
  obtain ⟨t193, A30, H⟩ := H
  replace H : (zone_mixed_v1.l0 k t193 (t193.length : Int) 0 a0_0 l0_1 a1_0 l1_1) = some (r1, r2) := H
  have A3 := Aside0.mk A30
  clear A30
  have H' := Aside0.mk H
  clear H
  go_enter Try.func102, Try.ntmps102
  go_wp2_with (first | ((with_reducible refine gate_dst (N := 3) rfl ?_); refine bx_ (N := 3) (cs := #[.int .i64 a0_0, .slice A0_1 l0_1.length c0_1]) (t := 24) ?_; intro gb190 hg w4 hbox hb; have n_ := a_ (bs_ HB hb) (a_ (Aside0.mk hbox) (a_ (gs_ HB hg) (gs_ HB hg))); clear HB; obtain ⟨HB, BK190, GW190, GE190⟩ := n_; clear hb hbox hg) | ((with_reducible refine gate_dst (N := 4) rfl ?_); refine bx_ (N := 4) (cs := #[.int .i64 a1_0, .slice A1_1 l1_1.length c1_1]) (t := 24) ?_; intro gb191 hg w5 hbox hb; have n_ := a_ (bb_ BK190 hb) (a_ (bs_ HB hb) (a_ (Aside0.mk hbox) (a_ (gs_ HB hg) (a_ (gs_ HB hg) (a_ (nl_ BK190 hg) (ng_ BK190 hg)))))); clear BK190 HB; obtain ⟨BK190, HB, BK191, GW191, GE191, NB190_191, NB191_190⟩ := n_; clear hb hbox hg) | ((with_reducible refine gate_dst (N := 6) rfl ?_); refine bx_ (N := 6) (cs := #[.int .i64 0, .slice none 0 0]) (t := 24) ?_; intro gb192 hg w6 hbox hb; have n_ := a_ (bb_ BK190 hb) (a_ (bb_ BK191 hb) (a_ (bs_ HB hb) (a_ (Aside0.mk hbox) (a_ (gs_ HB hg) (a_ (gs_ HB hg) (a_ (nl_ BK190 hg) (a_ (ng_ BK190 hg) (a_ (nl_ BK191 hg) (ng_ BK191 hg))))))))); clear BK190 BK191 HB; obtain ⟨BK190, BK191, HB, BK192, GW192, GE192, NB190_192, NB192_190, NB191_192, NB192_191⟩ := n_; clear hb hbox hg; have hnb7 := NB190_191.out; have hnc7 := NB191_190.out; have hnb8 := NB190_192.out; have hnc8 := NB192_190.out; obtain ⟨hcz9_0, hcz9_1, hfz9_0, hfz9_1⟩ := cz2_ BK190) | ((with_reducible refine gate_callee (f := 85) rfl ?_); refine goesL_ (some 13) rfl rfl Try.func85 (by kernel_rfl) rfl #[.slice A0_1 l0_1.length c0_1] rfl MP_ ?_; (with_reducible refine (slices_Clone_int_int.calls _ _ l0_1 t193 _ ?side1 ?side2 A3.out).mono ?_); (case side1 => exact sd_ (Kd.C_below HR0_1.out HB.out)); (case side2 => exact HC0_1.out); rintro e w10 ⟨v194, rfl, ho0, hb⟩; refine ⟨_, rfl, ?_⟩; have n_ := a_ (Aside0.mk (Kd.R_lower ho0 (below_size HB_))) (a_ (bb_ BK190 hb) (a_ (bb_ BK191 hb) (a_ (bb_ BK192 hb) (bs_ HB hb)))); clear BK190 BK191 BK192 HB; obtain ⟨HO195, BK190, BK191, BK192, HB⟩ := n_; (try clear hb); (try clear hb2); (try clear hk); (try clear hi); (try clear ho0); obtain ⟨Ao11, co11, eo11⟩ := Kd.R_slice HO195.out; subst eo11))
  go_loopg [16] k (fun kq v16 w' => ∃ (x7_1 : List Int) (x16_1 : Int), v16 = .int .i64 x16_1 ∧ Aside0 (zone_mixed_v1.l0 kq x7_1 (t193.length : Int) x16_1 a0_0 l0_1 a1_0 l1_1 = some (r1, r2)) ∧ Aside0 (kq ≤ k) ∧ Aside0 (Kd.R (Kd.int .i64) 3 w' w.heap.size (fun _ => True) (.slice Ao11 t193.length co11) x7_1) ∧ Aside0 (w'.heap[gb190]? = some (.cells #[.int .i64 a0_0, (.slice A0_1 l0_1.length c0_1)] 24 (0, 0))) ∧ Aside0 (w'.heap[gb191]? = some (.cells #[.int .i64 a1_0, (.slice A1_1 l1_1.length c1_1)] 24 (0, 0))) ∧ Aside0 (w'.heap[gb192]? = some (.cells #[.int .i64 0, (.slice none 0 0)] 24 (0, 0))) ∧ Aside0 (Below w.heap.size w w'))
  case atStart => exact ⟨(t193), (0), (by first | rfl | (simp; done) | (simp [*]; done)), H', ⟨Nat.le_refl _⟩, ⟨by (with_reducible repeat (first | apply Kd.R_alloc | apply Kd.R_drewN | apply Kd.R_drew)); exact HO195.out⟩, ⟨by (with_reducible repeat (first | refine blk_drewN ?_ _ | refine blk_drew ?_ | refine blk_alloc ?_ _)); exact BK190.out⟩, ⟨by (with_reducible repeat (first | refine blk_drewN ?_ _ | refine blk_drew ?_ | refine blk_alloc ?_ _)); exact BK191.out⟩, ⟨by (with_reducible repeat (first | refine blk_drewN ?_ _ | refine blk_drew ?_ | refine blk_alloc ?_ _)); exact BK192.out⟩, ⟨HB_⟩⟩
  case round =>
    clear H'
    try clear c1
    try clear p2
    try clear c7
    try clear c8
    try clear c10
    try clear hcz9_0
    try clear hcz9_1
    try clear hfz9_0
    try clear hfz9_1
    obtain ⟨x7_1, x16_1, rfl, HA, HK1, HO_7, BK190, BK191, BK192, HB⟩ := hrel
    have hl7_1 := (Kd.R_reads' HO_7.out).1
    rw [hl7_1] at HO_7
    (try simp only [hl7_1])
    (try simp only [hl7_1] at BK190)
    (try simp only [hl7_1] at BK191)
    (try simp only [hl7_1] at BK192)
    cases gk with
    | zero => exact absurd HA.out (by simp [zone_mixed_v1.l0])
    | succ k1 =>
      have H := HA.out
      clear HA
      simp only [zone_mixed_v1.l0] at H
      by_cases c12 : x16_1 < (t193.length : Int)
      rotate_left
      · rw [if_neg c12] at H
        have c12b0 : decide (x16_1 < (t193.length : Int)) = false := decide_eq_false c12
        (try simp only [hl7_1] at c12b0)
        clear c12
        replace H := Option.bind_eq_some_iff.mp H
        obtain ⟨⟨t200, t201, t204⟩, A210, H⟩ := H
        replace H : (some (t200, t201)) = some (r1, r2) := H
        have A21 := Aside0.mk A210
        clear A210
        simp only [Option.some.injEq, Prod.mk.injEq] at H
        obtain ⟨rfl, rfl⟩ := H
        have hnb22 := NB190_191.out
        have hnc22 := NB191_190.out
        have hnb23 := NB190_192.out
        have hnc23 := NB192_190.out
        obtain ⟨hcz24_0, hcz24_1, hfz24_0, hfz24_1⟩ := cz2_ BK190
        go_wp2_with (first | ((with_reducible refine gate_callee (f := 88) rfl ?_); refine goesL_ (some 38) rfl rfl Try.func88 (by kernel_rfl) rfl #[.int .i64 a0_0, .slice Ao11 x7_1.length co11] rfl MP_ ?_; (with_reducible refine (dbm_Close.calls k1 a0_0 _ _ x7_1 t200 t201 t204 _ ?side1 ?side2 A21.out).mono ?_); (case side1 => repeat (first | exact (Kd.R_reads' HO_7.out).2.2 | (with_reducible refine Kd.C_alloc ?_ _) | (with_reducible refine Kd.C_drewN ?_ _) | (with_reducible refine Kd.C_drew ?_))); (case side2 => exact (Kd.R_reads' HO_7.out).2.1); rintro e w25 ⟨v202, rfl, ho0, hb⟩; refine ⟨_, rfl, ?_⟩; have n_ := a_ (Aside0.mk (Kd.R_elder' (rd_ HO_7.out) (Kd.R_base ho0) hb)) (a_ (Aside0.mk (Kd.R_lower (Kd.R_new' ho0 (Kd.R_lt (rd_ HO_7.out))) (below_size HB_))) (a_ (bb_ BK190 hb) (a_ (bb_ BK191 hb) (a_ (bb_ BK192 hb) (bs_ HB hb))))); clear HO_7 BK190 BK191 BK192 HB; obtain ⟨HO_7, HO203, BK190, BK191, BK192, HB⟩ := n_; (try clear hb); (try clear hb2); (try clear hk); (try clear hi); (try clear ho0)) | ((with_reducible refine gate_dst (N := 9) rfl ?_); refine bx_ (N := 9) (cs := #[.int .i64 0, .slice none 0 0]) (t := 24) ?_; intro gb205 hg w26 hbox hb; have n_ := a_ (rb_ HO_7 hb) (a_ (rb_ HO203 hb) (a_ (bb_ BK190 hb) (a_ (bb_ BK191 hb) (a_ (bb_ BK192 hb) (a_ (bs_ HB hb) (a_ (Aside0.mk hbox) (a_ (gs_ HB hg) (a_ (gs_ HB hg) (a_ (nl_ BK190 hg) (a_ (ng_ BK190 hg) (a_ (nl_ BK191 hg) (a_ (ng_ BK191 hg) (a_ (nl_ BK192 hg) (ng_ BK192 hg)))))))))))))); clear HO_7 HO203 BK190 BK191 BK192 HB; obtain ⟨HO_7, HO203, BK190, BK191, BK192, HB, BK205, GW205, GE205, NB190_205, NB205_190, NB191_205, NB205_191, NB192_205, NB205_192⟩ := n_; clear hb hbox hg; have hnb27 := NB205_190.out; have hnc27 := NB190_205.out; have hnb28 := NB205_191.out; have hnc28 := NB191_205.out; have hnb29 := NB205_192.out; have hnc29 := NB192_205.out; obtain ⟨hcz30_0, hcz30_1, hfz30_0, hfz30_1⟩ := cz2_ BK205; obtain ⟨Ao31, co31, eo31⟩ := Kd.R_slice HO203.out; subst eo31; have hnb32 := NB192_191.out; have hnc32 := NB191_192.out; obtain ⟨hcz33_0, hcz33_1, hfz33_0, hfz33_1⟩ := cz2_ BK192))
        refine bodyPost_ret (results_cell_row rfl _ _ gb192 24 #[.int .i64 t200, .slice Ao31 t201.length co31] (0, 0) _ rfl (bk2_ BK192.out) Try.underlying24 rfl (by kernel_rfl)) rfl ?_
        exact ⟨_, by first | rfl | (simp [errW_none, errW_some] <;> rfl) | (simp [*, errW_none, errW_some] <;> rfl), by (with_reducible repeat (first | apply Kd.R_alloc | apply Kd.R_drewN | apply Kd.R_drew)); exact Kd.R_mono (Kd.R_far (p := ⟨gb192, 1, none⟩) (Kd.R_far (p := ⟨gb192, 0, none⟩) (Kd.R_far (p := ⟨gb205, 1, none⟩) (Kd.R_far (p := ⟨gb205, 0, none⟩) (Kd.R_types (Kd.R_types HO203.out BK205.out (by decide)) BK192.out (by decide)) (fun _ hk => hk.1.2) (.int .i64 t200)) (fun _ hk => hk.1.2) (.slice Ao31 t201.length co31)) (fun _ hk => hk.2) (.int .i64 t200)) (fun _ hk => hk.2) (.slice Ao31 t201.length co31)) (fun _ hk => trivial), HB_⟩

      rw [if_pos c12] at H
      have c12b0 : decide (x16_1 < (t193.length : Int)) = true := decide_eq_true c12
      (try simp only [hl7_1] at c12b0)
      clear c12
      replace H := yes_ H
      obtain ⟨c13, H⟩ := H
      have c13b0 : decide (0 ≤ x16_1) = true := decide_eq_true c13
      clear c13
      replace H := yes_ H
      obtain ⟨c14, H⟩ := H
      have c14b0 : decide (x16_1 < (x7_1.length : Int)) = true := decide_eq_true c14
      (try simp only [hl7_1] at c14b0)
      clear c14
      replace H := yes_ H
      obtain ⟨c15, H⟩ := H
      have c15b0 : decide (x16_1 < (l1_1.length : Int)) = true := decide_eq_true c15
      (try simp only [hl7_1] at c15b0)
      clear c15
      replace H := Option.bind_eq_some_iff.mp H
      obtain ⟨t198, A160, H⟩ := H
      replace H : (zone_mixed_v1.l0 k1 (x7_1.set (x16_1 : Int).toNat t198) (t193.length : Int) (wrap64 (x16_1 + 1)) a0_0 l0_1 a1_0 l1_1) = some (r1, r2) := H
      have A16 := Aside0.mk A160
      clear A160
      obtain ⟨y199, hy199⟩ : ∃ y_ : List Int, y_ = (x7_1.set (x16_1 : Int).toNat t198) := ⟨_, rfl⟩
      replace H : (zone_mixed_v1.l0 k1 y199 (t193.length : Int) (wrap64 (x16_1 + 1)) a0_0 l0_1 a1_0 l1_1) = some (r1, r2) := by first | (rw [hy199]; with_reducible exact H) | (have H2_ := (Option.bind_some _ _).symm.trans H; rw [hy199]; with_reducible exact H2_) | (have H2_ := (Option.bind_some _ _).symm.trans H; with_reducible exact H2_) | with_reducible exact H | (rw [hy199]; exact H) | exact H
      have Ny199 := Aside0.mk hy199
      clear hy199
      have H' := Aside0.mk H
      clear H
      try go_wp2
      have n_ := a_ (Aside0.mk (Kd.R_drew HO_7.out)) (a_ (Aside0.mk (blk_drew BK190.out)) (a_ (Aside0.mk (blk_drew BK191.out)) (a_ (Aside0.mk (blk_drew BK192.out)) (Aside0.mk (below_drew1 HB.out)))))
      clear HO_7 BK190 BK191 BK192 HB
      obtain ⟨HO_7, BK190, BK191, BK192, HB⟩ := n_
      have p196 : 0 ≤ (x16_1 : Int) := of_decide_eq_true (by first | (with_reducible assumption) | assumption)
      have q196 : x16_1 < (x7_1.length : Int) := of_decide_eq_true (by first | (with_reducible assumption) | assumption)
      obtain ⟨ad196, e196, hx196_0⟩ := Kd.at_int (Kd.R_reads' HO_7.out).2.2 x16_1 p196 q196
      cases e196
      replace p196 := eq_true p196
      replace q196 := eq_true q196
      have p197 : 0 ≤ (x16_1 : Int) := of_decide_eq_true (by first | (with_reducible assumption) | assumption)
      have q197 : x16_1 < (l1_1.length : Int) := of_decide_eq_true (by first | (with_reducible assumption) | assumption)
      obtain ⟨ad197, e197, hx197_0⟩ := Kd.at_int HR1_1.out x16_1 p197 q197
      have hw197_0 := hx197_0
      cases e197
      first | (replace hx197_0 := (HB.out.cell (World.block_lt_of_cell? w _ hx197_0)).trans hx197_0) | skip
      replace p197 := eq_true p197
      replace q197 := eq_true q197
      refine start_ (n := 15) (S := fun w' => w'.cell? ⟨gb191, 0, none⟩ = some (.int .i64 a1_0) ∧ w'.cell? ⟨gb191, 1, none⟩ = some (.slice (some ad197) l1_1.length c1_1) ∧ w'.cell? (ad196.add (x16_1).toNat) = some (.int .i64 (rd x7_1 x16_1)) ∧ w'.cell? (ad197.add (x16_1).toNat) = some (.int .i64 (rd l1_1 x16_1))) (ds := [14]) #[false, false, false, false, false, false, false, false, false, false, false, false, false, false, false] (by kernel_rfl) rfl rfl ⟨(blk_cell BK191.out 0).trans rfl, (blk_cell BK191.out 1).trans rfl, hx196_0, ((HB.out.cell (World.block_lt_of_cell? w _ hw197_0)).trans hw197_0)⟩ (fun hHeld => ?_); refine with_tabW zone_mixed_v1.tab5 zone_mixed_v1.bits5 (fun HT_ HW_ => ?_)
      generalize wr.drew = w18 at HO_7 BK190 BK191 BK192 HB hx196_0 hx197_0 hHeld ⊢
      refine pu_ 0 (some 19) ?_
      refine pu_ 1 (some 20) ?_
      refine pu_ 2 (some 21) ?_
      refine pu_ 3 (some 22) ?_
      refine pu_ 4 (some 23) ?_
      refine pu_ 5 (some 24) ?_
      refine pu_ 7 (some 26) ?_
      refine pu_ 9 (some 28) ?_
      refine take_ (i := 6) (N := some 25) (v := ?_) (a' := ?_) #[true, true, true, true, true, true, true, true, false, true, false, false, false, false, false] rfl rfl (take_ofW HT_.out HW_.out (by kernel_rfl)) (fun _ _ _ h => h) (Or.inl ⟨by rfl, ?_⟩) hHeld ?_ ?_
      rotate_left
      · rintro w' ⟨s0, s1, s2, s3⟩
        go_simp
        with_reducible rfl
      rotate_left
      · exact AP_
      refine take_ (i := 8) (N := some 27) (v := ?_) (a' := ?_) #[true, true, true, true, true, true, true, true, true, true, false, false, false, false, false] rfl rfl (take_ofW HT_.out HW_.out (by kernel_rfl)) (fun _ _ _ h => h) (Or.inl ⟨by rfl, ?_⟩) hHeld ?_ ?_
      rotate_left
      · rintro w' ⟨s0, s1, s2, s3⟩
        go_simp
        with_reducible rfl
      rotate_left
      · exact AP_
      refine pu_ 10 (some 29) ?_
      refine take_ (i := 11) (N := some 30) (v := ?_) (a' := ?_) #[true, true, true, true, true, true, true, true, true, true, true, true, false, false, false] rfl rfl (take_ofW HT_.out HW_.out (by kernel_rfl)) (fun _ _ _ h => h) (Or.inl ⟨by rfl, ?_⟩) hHeld ?_ ?_
      rotate_left
      · rintro w' ⟨s0, s1, s2, s3⟩
        go_simp
        with_reducible rfl
      rotate_left
      · exact AP_
      refine on_ 12 (some 31) (fun K hK => ?_)
      refine goesV_ #[] #[.int .i64 (rd x7_1 x16_1), .int .i64 (rd l1_1 x16_1)] (enters_ Try.func78 (by kernel_rfl) rfl _ _) (by rfl) rfl rfl (by rfl) MP_ ?_
      rw [show (#[.int .i64 (rd x7_1 x16_1), .int .i64 (rd l1_1 x16_1)] : Array Value) ++ #[] = #[.int .i64 (rd x7_1 x16_1), .int .i64 (rd l1_1 x16_1)] from rfl]
      with_reducible refine (zone_Join_1.calls (rd x7_1 x16_1) (rd l1_1 x16_1) t198 _ A16.out).mono ?_
      rintro e w19 ⟨rfl, hb⟩
      have HS2_ := (hb.cell (World.block_lt_of_cell? _ _ (hHeld.2.2.1))).trans (hHeld.2.2.1)
      refine ⟨_, rfl, ?_⟩
      have n_ := a_ (rb_ HO_7 hb) (a_ (bb_ BK190 hb) (a_ (bb_ BK191 hb) (a_ (bb_ BK192 hb) (bs_ HB hb))))
      clear HO_7 BK190 BK191 BK192 HB
      obtain ⟨HO_7, BK190, BK191, BK192, HB⟩ := n_
      (try clear hb)
      (try clear hb2)
      (try clear hk)
      (try clear hi)
      have p17 : 0 ≤ (x16_1 : Int) := of_decide_eq_true (by first | (with_reducible assumption) | assumption)
      have q17 : (x16_1 : Int) < ((x7_1.length : Int) : Int) := of_decide_eq_true (by first | (with_reducible assumption) | assumption)
      obtain ⟨go17, co17, eo17, gb17, gl17, cl17, HG17⟩ := Kd.R_form HO_7.out (by omega)
      (first | cases eo17 | (injection eo17 with ea_ en_ ec_; (first | subst ea_ | (injection ea_ with ea_; subst ea_)); subst ec_; clear en_))
      have GB17 := Aside0.mk gb17
      have GG17 := Aside0.mk HG17
      clear gb17 gl17 HG17
      (first | simp only [add_plain] at hx196_0 | skip)
      obtain ⟨hx17_0, hf17_0⟩ := Kd.R_celln 0 HO_7.out (x16_1 : Int) p17 q17
      replace p17 := eq_true p17
      replace q17 := eq_true q17
      have HP20 := Kd.R_putn HO_7.out (x16_1 : Int) t198
      rw [← Ny199.out] at HP20
      have HQ20 := Aside0.mk HP20
      clear HP20
      refine hK.out _ _ ⟨(blk_cell BK191.out 0).trans rfl, (blk_cell BK191.out 1).trans rfl, HS2_, ((HB.out.cell (World.block_lt_of_cell? w _ hw197_0)).trans hw197_0)⟩ (fun hHeld => ?_)
      clear hK K
      refine nm_ ?_
      refine pu_ 13 (some 32) ?_
      refine last_ (i := 14) (N := none) #[true, true, true, true, true, true, true, true, true, true, true, true, true, true, true] rfl rfl (one_of HT_.out (by kernel_rfl)) (by decide) (fun K hK => ?_)
      refine skip_ (w1 := ?_) (by rfl) rfl ?_ ?_
      rotate_left
      · go_simp
        rfl
      refine hK.out _ _ ?_
      clear hK K
      refine done_ (done_of HT_.out (by kernel_rfl)) ?_
      try go_wp2
      (try simp only [← hl7_1])
      go_roundg k1
      case measure => have := HK1.out; omega
      case rel => exact ⟨(y199), (wrap64 (x16_1 + 1)), (by first | rfl | (simp; done) | (simp [*]; done)), H', ⟨by have := HK1.out; omega⟩, ⟨by (try simp only [hl7_1]); (with_reducible repeat (first | apply Kd.R_alloc | apply Kd.R_drewN | apply Kd.R_drew)); exact HQ20.out⟩, ⟨by (try simp only [hl7_1]); (with_reducible repeat (first | refine blk_drewN ?_ _ | refine blk_drew ?_ | refine blk_alloc ?_ _)); refine blk_far ?_ (by have h_ := Kd.R_ne HO_7.out BK190.out (by decide); intro e_; exact h_ (by rw [e_]; rfl)) _; (with_reducible repeat (first | refine blk_drewN ?_ _ | refine blk_drew ?_ | refine blk_alloc ?_ _)); exact BK190.out⟩, ⟨by (try simp only [hl7_1]); (with_reducible repeat (first | refine blk_drewN ?_ _ | refine blk_drew ?_ | refine blk_alloc ?_ _)); refine blk_far ?_ (by have h_ := Kd.R_ne HO_7.out BK191.out (by decide); intro e_; exact h_ (by rw [e_]; rfl)) _; (with_reducible repeat (first | refine blk_drewN ?_ _ | refine blk_drew ?_ | refine blk_alloc ?_ _)); exact BK191.out⟩, ⟨by (try simp only [hl7_1]); (with_reducible repeat (first | refine blk_drewN ?_ _ | refine blk_drew ?_ | refine blk_alloc ?_ _)); refine blk_far ?_ (by have h_ := Kd.R_ne HO_7.out BK192.out (by decide); intro e_; exact h_ (by rw [e_]; rfl)) _; (with_reducible repeat (first | refine blk_drewN ?_ _ | refine blk_drew ?_ | refine blk_alloc ?_ _)); exact BK192.out⟩, ⟨by repeat (first | (with_reducible first | exact HB.out | apply below_alloc | apply pw_below_drewN | apply below_drew1 | refine below_set ?_ GB17.out | refine below_set ?_ GE190.out | refine below_set ?_ GE191.out | refine below_set ?_ GE192.out) | exact HB.out)⟩⟩
/-! ### zone_both_v1: function 77 -/
def zone_both_v1.j0 : Nat → Bool → Bool → Int → List Int → Int → List Int → Option (Int × List Int × Int)
  | 0, _, _, _, _, _, _ => none
  | k + 1, x2, x19, x207000, x207001, x208000, x208001 => if x19 = true then ((zone_mixed_v1.f k x207000 x207001 x208000 x208001).bind fun bt210 => (some (bt210.1, bt210.2, 0))) else (if x2 = true then (if (x207001.length : Int) = 0 then ((slices_Clone_int_int.f x208001).bind fun t214 => (some (x208000, t214, 0))) else ((slices_Clone_int_int.f x207001).bind fun t217 => (some (x207000, t217, 0)))) else ((zone_empty.f x207000 x207001).bind fun bt220 => (some (bt220.1, bt220.2, 0))))
def zone_both_v1.f (k : Nat) (a0_0 : Int) (l0_1 : List Int) (a1_0 : Int) (l1_1 : List Int) (a2 : Bool) : Option (Int × List Int × Int) := (zone_two.f k a0_0 l0_1 a1_0 l1_1).bind fun t209 => (if t209 = 0 then (if (l0_1.length : Int) > 0 then (zone_both_v1.j0 k a2 (decide ((l1_1.length : Int) > 0)) a0_0 l0_1 a1_0 l1_1) else (zone_both_v1.j0 k a2 false a0_0 l0_1 a1_0 l1_1)) else (some (0, ([] : List Int), t209)))
theorem zone_both_v1.mono_l : ∀ k, (∀ y0 y1 y2 y3 y4 y5, LeO (zone_both_v1.j0 k y0 y1 y2 y3 y4 y5) (zone_both_v1.j0 (k + 1) y0 y1 y2 y3 y4 y5))
  | 0 => fun _ _ _ _ _ _ r h => by simp [zone_both_v1.j0] at h
  | k + 1 => by
    have ih0 := zone_both_v1.mono_l k
    · intro y0 y1 y2 y3 y4 y5
      unfold zone_both_v1.j0
      repeat' first
      | (with_reducible exact ih0 _ _ _ _ _ _)
      | (with_reducible exact zone_mixed_v1.mono _ _ _ _ _)
      | (with_reducible exact zone_two.mono _ _ _ _ _)
      | (with_reducible exact LeO.refl _)
      | (with_reducible exact LeO.none _)
      | (with_reducible refine LeO.ite ?_ ?_)
      | (with_reducible refine LeO.bind ?_ (fun _ => ?_))
      | exact ih0 _ _ _ _ _ _
      | exact zone_mixed_v1.mono _ _ _ _ _
      | exact zone_two.mono _ _ _ _ _
      | exact LeO.none _
      | refine LeO.ite ?_ ?_
      | refine LeO.bind ?_ (fun _ => ?_)
theorem zone_both_v1.mono : ∀ a0 a1 a2 a3 a4 k, LeO (zone_both_v1.f k a0 a1 a2 a3 a4) (zone_both_v1.f (k + 1) a0 a1 a2 a3 a4) := by
  intro a0 a1 a2 a3 a4 k
  have ih0 := zone_both_v1.mono_l k
  unfold zone_both_v1.f
  repeat' first
      | (with_reducible exact ih0 _ _ _ _ _ _)
      | (with_reducible exact zone_mixed_v1.mono _ _ _ _ _)
      | (with_reducible exact zone_two.mono _ _ _ _ _)
      | (with_reducible exact LeO.refl _)
      | (with_reducible exact LeO.none _)
      | (with_reducible refine LeO.ite ?_ ?_)
      | (with_reducible refine LeO.bind ?_ (fun _ => ?_))
      | exact ih0 _ _ _ _ _ _
      | exact zone_mixed_v1.mono _ _ _ _ _
      | exact zone_two.mono _ _ _ _ _
      | exact LeO.none _
      | refine LeO.ite ?_ ?_
      | refine LeO.bind ?_ (fun _ => ?_)
def zone_both_v1.T10 : Bool × List (List Nat × List Nat) := (true, [([], []), ([0], [0]), ([], []), ([2], [2]), ([3], [3]), ([1, 4], [1, 4]), ([5, 4, 0, 1, 2, 3, 4, 5], [5]), ([6, 0, 1, 2, 3, 4, 5, 6], [])])
def zone_both_v1.B10 : List Nat := [0, 1, 0, 4, 12, 31, 63, 127]
theorem zone_both_v1.tab10 : rtab .any (opsOf Try.f77 10) = zone_both_v1.T10 := by kernel_rfl
theorem zone_both_v1.bits10 : waitsOk zone_both_v1.T10.2 zone_both_v1.B10 = true := by kernel_rfl
set_option maxHeartbeats 8000000 in
set_option maxRecDepth 100000 in
theorem zone_both_v1.calls (k : Nat) (a0_0 : Int) (A0_1 : Option Addr) (c0_1 : Nat) (l0_1 : List Int) (a1_0 : Int) (A1_1 : Option Addr) (c1_1 : Nat) (l1_1 : List Int) (a2 : Bool) (r1 : Int) (r2 : List Int) (r3 : Int) (w : World) (hr0_1 : Kd.C (Kd.int .i64) w A0_1 l0_1.length l0_1) (hc0_1 : l0_1.length ≤ c0_1) (hr1_1 : Kd.C (Kd.int .i64) w A1_1 l1_1.length l1_1) (hc1_1 : l1_1.length ≤ c1_1) (h : zone_both_v1.f k a0_0 l0_1 a1_0 l1_1 a2 = some (r1, r2, r3)) :
    Calls Try.prog 77 #[.agg #[.int .i64 a0_0, .slice A0_1 l0_1.length c0_1], .agg #[.int .i64 a1_0, .slice A1_1 l1_1.length c1_1], .bool a2, .func (.func 78) #[] #[]] w fun e w' => ∃ v1_ : Value, e = .returned (.tuple #[.agg #[.int .i64 r1, v1_], .int .i64 r3]) ∧ Kd.R (Kd.int .i64) 3 w' w.heap.size (fun _ => True) v1_ r2 ∧ Below w.heap.size w w' := by
  have hu24 := Try.underlying24
  have HR0_1 := Aside0.mk hr0_1
  have HC0_1 := Aside0.mk hc0_1
  clear hr0_1 hc0_1
  have HR1_1 := Aside0.mk hr1_1
  have HC1_1 := Aside0.mk hc1_1
  clear hr1_1 hc1_1
  have HB := Aside0.mk (Below.refl w.heap.size w)
  have H : ((zone_two.f k a0_0 l0_1 a1_0 l1_1).bind fun t209 => (if t209 = 0 then (if (l0_1.length : Int) > 0 then (zone_both_v1.j0 k a2 (decide ((l1_1.length : Int) > 0)) a0_0 l0_1 a1_0 l1_1) else (zone_both_v1.j0 k a2 false a0_0 l0_1 a1_0 l1_1)) else (some (0, ([] : List Int), t209)))) = some (r1, r2, r3) := h
  clear h
  replace H := Option.bind_eq_some_iff.mp H
  obtain ⟨t209, A40, H⟩ := H
  replace H : (if t209 = 0 then (if (l0_1.length : Int) > 0 then (zone_both_v1.j0 k a2 (decide ((l1_1.length : Int) > 0)) a0_0 l0_1 a1_0 l1_1) else (zone_both_v1.j0 k a2 false a0_0 l0_1 a1_0 l1_1)) else (some (0, ([] : List Int), t209))) = some (r1, r2, r3) := H
  have A4 := Aside0.mk A40
  clear A40
  by_cases c5 : t209 = 0
  rotate_left
  · rw [if_neg c5] at H
    have c5b0 : (t209 == 0) = false := beq_eq_false_iff_ne.mpr c5
    have c5b1 : (t209 != 0) = true := bne_iff_ne.mpr c5
    simp only [Option.some.injEq, Prod.mk.injEq] at H
    obtain ⟨rfl, rfl, rfl⟩ := H
    go_enter Try.func77, Try.ntmps77
    go_wp2_with (first | ((with_reducible refine gate_dst (N := 4) rfl ?_); (try (refine gate_guard (by rfl) ?_; dsimp only)); refine bx_ (N := 4) (cs := #[.int .i64 a0_0, .slice A0_1 l0_1.length c0_1]) (t := 24) ?_; intro gb206 hg w66 hbox hb; have n_ := a_ (bs_ HB hb) (a_ (Aside0.mk hbox) (a_ (gs_ HB hg) (gs_ HB hg))); clear HB; obtain ⟨HB, BK206, GW206, GE206⟩ := n_; clear hb hbox hg) | ((with_reducible refine gate_dst (N := 5) rfl ?_); (try (refine gate_guard (by rfl) ?_; dsimp only)); refine bx_ (N := 5) (cs := #[.int .i64 a1_0, .slice A1_1 l1_1.length c1_1]) (t := 24) ?_; intro gb207 hg w67 hbox hb; have n_ := a_ (bb_ BK206 hb) (a_ (bs_ HB hb) (a_ (Aside0.mk hbox) (a_ (gs_ HB hg) (a_ (gs_ HB hg) (a_ (nl_ BK206 hg) (ng_ BK206 hg)))))); clear BK206 HB; obtain ⟨BK206, HB, BK207, GW207, GE207, NB206_207, NB207_206⟩ := n_; clear hb hbox hg) | ((with_reducible refine gate_dst (N := 8) rfl ?_); (try (refine gate_guard (by rfl) ?_; dsimp only)); refine bx_ (N := 8) (cs := #[.int .i64 0, .slice none 0 0]) (t := 24) ?_; intro gb208 hg w68 hbox hb; have n_ := a_ (bb_ BK206 hb) (a_ (bb_ BK207 hb) (a_ (bs_ HB hb) (a_ (Aside0.mk hbox) (a_ (gs_ HB hg) (a_ (gs_ HB hg) (a_ (nl_ BK206 hg) (a_ (ng_ BK206 hg) (a_ (nl_ BK207 hg) (ng_ BK207 hg))))))))); clear BK206 BK207 HB; obtain ⟨BK206, BK207, HB, BK208, GW208, GE208, NB206_208, NB208_206, NB207_208, NB208_207⟩ := n_; clear hb hbox hg; have hnb69 := NB206_207.out; have hnc69 := NB207_206.out; have hnb70 := NB206_208.out; have hnc70 := NB208_206.out; obtain ⟨hcz71_0, hcz71_1, hfz71_0, hfz71_1⟩ := cz2_ BK206; have hnb72 := NB207_208.out; have hnc72 := NB208_207.out; obtain ⟨hcz73_0, hcz73_1, hfz73_0, hfz73_1⟩ := cz2_ BK207) | ((with_reducible refine gate_callee (f := 79) rfl ?_); refine goesL_ (some 13) rfl rfl Try.func79 (by kernel_rfl) rfl #[.agg #[.int .i64 a0_0, .slice A0_1 l0_1.length c0_1], .agg #[.int .i64 a1_0, .slice A1_1 l1_1.length c1_1]] rfl MP_ ?_; (with_reducible refine (zone_two.calls k a0_0 _ _ l0_1 a1_0 _ _ l1_1 t209 _ ?side1 ?side2 ?side3 ?side4 A4.out).mono ?_); (case side1 => exact sd_ (Kd.C_below HR0_1.out HB.out)); (case side2 => exact HC0_1.out); (case side3 => exact sd_ (Kd.C_below HR1_1.out HB.out)); (case side4 => exact HC1_1.out); rintro e w74 ⟨rfl, hb⟩; refine ⟨_, rfl, ?_⟩; have n_ := a_ (bb_ BK206 hb) (a_ (bb_ BK207 hb) (a_ (bb_ BK208 hb) (bs_ HB hb))); clear BK206 BK207 BK208 HB; obtain ⟨BK206, BK207, BK208, HB⟩ := n_; (try clear hb); (try clear hb2); (try clear hk); (try clear hi); obtain ⟨hcz75_0, hcz75_1, hfz75_0, hfz75_1⟩ := cz2_ BK208))
    refine bodyPost_ret (results_ct rfl _ _ gb208 24 #[.int .i64 0, .slice none 0 0] (0, 0) _ rfl (bk2_ BK208.out) Try.underlying24 rfl (by kernel_rfl)) rfl ?_
    exact ⟨_, by first | rfl | (simp [errW_none, errW_some] <;> rfl) | (simp [*, errW_none, errW_some] <;> rfl), by first | exact Kd.R_nil _ _ _ _ _ | exact Kd.N_nil _ _ _ _ _ | exact Kd.V_nil _ _ _ _ _ | exact Kd.Q_nil _ _ _ _ _ | exact Kd.S_nil _ _ _ _ _, HB_⟩

  rw [if_pos c5] at H
  have c5b0 : (t209 == 0) = true := beq_iff_eq.mpr c5
  have c5b1 : (t209 != 0) = false := bne_eq_false_iff_eq.mpr c5
  clear c5
  have HC6 := Aside0.mk H
  clear H
  go_enter Try.func77, Try.ntmps77
  go_upto_region 4 with (first | ((with_reducible refine gate_dst (N := 4) rfl ?_); (try (refine gate_guard (by rfl) ?_; dsimp only)); refine bx_ (N := 4) (cs := #[.int .i64 a0_0, .slice A0_1 l0_1.length c0_1]) (t := 24) ?_; intro gb206 hg w7 hbox hb; have n_ := a_ (bs_ HB hb) (a_ (Aside0.mk hbox) (a_ (gs_ HB hg) (gs_ HB hg))); clear HB; obtain ⟨HB, BK206, GW206, GE206⟩ := n_; clear hb hbox hg) | ((with_reducible refine gate_dst (N := 5) rfl ?_); (try (refine gate_guard (by rfl) ?_; dsimp only)); refine bx_ (N := 5) (cs := #[.int .i64 a1_0, .slice A1_1 l1_1.length c1_1]) (t := 24) ?_; intro gb207 hg w8 hbox hb; have n_ := a_ (bb_ BK206 hb) (a_ (bs_ HB hb) (a_ (Aside0.mk hbox) (a_ (gs_ HB hg) (a_ (gs_ HB hg) (a_ (nl_ BK206 hg) (ng_ BK206 hg)))))); clear BK206 HB; obtain ⟨BK206, HB, BK207, GW207, GE207, NB206_207, NB207_206⟩ := n_; clear hb hbox hg) | ((with_reducible refine gate_dst (N := 8) rfl ?_); (try (refine gate_guard (by rfl) ?_; dsimp only)); refine bx_ (N := 8) (cs := #[.int .i64 0, .slice none 0 0]) (t := 24) ?_; intro gb208 hg w9 hbox hb; have n_ := a_ (bb_ BK206 hb) (a_ (bb_ BK207 hb) (a_ (bs_ HB hb) (a_ (Aside0.mk hbox) (a_ (gs_ HB hg) (a_ (gs_ HB hg) (a_ (nl_ BK206 hg) (a_ (ng_ BK206 hg) (a_ (nl_ BK207 hg) (ng_ BK207 hg))))))))); clear BK206 BK207 HB; obtain ⟨BK206, BK207, HB, BK208, GW208, GE208, NB206_208, NB208_206, NB207_208, NB208_207⟩ := n_; clear hb hbox hg; have hnb10 := NB206_207.out; have hnc10 := NB207_206.out; have hnb11 := NB206_208.out; have hnc11 := NB208_206.out; obtain ⟨hcz12_0, hcz12_1, hfz12_0, hfz12_1⟩ := cz2_ BK206; have hnb13 := NB207_208.out; have hnc13 := NB208_207.out; obtain ⟨hcz14_0, hcz14_1, hfz14_0, hfz14_1⟩ := cz2_ BK207) | ((with_reducible refine gate_callee (f := 79) rfl ?_); refine goesL_ (some 13) rfl rfl Try.func79 (by kernel_rfl) rfl #[.agg #[.int .i64 a0_0, .slice A0_1 l0_1.length c0_1], .agg #[.int .i64 a1_0, .slice A1_1 l1_1.length c1_1]] rfl MP_ ?_; (with_reducible refine (zone_two.calls k a0_0 _ _ l0_1 a1_0 _ _ l1_1 t209 _ ?side1 ?side2 ?side3 ?side4 A4.out).mono ?_); (case side1 => exact sd_ (Kd.C_below HR0_1.out HB.out)); (case side2 => exact HC0_1.out); (case side3 => exact sd_ (Kd.C_below HR1_1.out HB.out)); (case side4 => exact HC1_1.out); rintro e w15 ⟨rfl, hb⟩; refine ⟨_, rfl, ?_⟩; have n_ := a_ (bb_ BK206 hb) (a_ (bb_ BK207 hb) (a_ (bb_ BK208 hb) (bs_ HB hb))); clear BK206 BK207 BK208 HB; obtain ⟨BK206, BK207, BK208, HB⟩ := n_; (try clear hb); (try clear hb2); (try clear hk); (try clear hi)))
  (try simp only [Act.put, List.setIfInBounds_toArray, List.set_cons_zero, List.set_cons_succ])
  go_cut [19] (fun v19 wc => ∃ (kq : Nat) (x19_5 : Bool), v19 = .bool x19_5 ∧ Aside0 (zone_both_v1.j0 kq a2 x19_5 a0_0 l0_1 a1_0 l1_1 = some (r1, r2, r3)) ∧ Aside0 (kq ≤ k) ∧ Aside0 (wc.heap[gb206]? = some (.cells #[.int .i64 a0_0, (.slice A0_1 l0_1.length c0_1)] 24 (0, 0))) ∧ Aside0 (wc.heap[gb207]? = some (.cells #[.int .i64 a1_0, (.slice A1_1 l1_1.length c1_1)] 24 (0, 0))) ∧ Aside0 (wc.heap[gb208]? = some (.cells #[.int .i64 0, (.slice none 0 0)] 24 (0, 0))) ∧ Aside0 (Below w.heap.size w wc))
  case first =>
    have H := HC6.out
    clear HC6
    by_cases c16 : (l0_1.length : Int) > 0
    rotate_left
    · rw [if_neg c16] at H
      have c16b0 : decide (0 < (l0_1.length : Int)) = false := decide_eq_false c16
      have c16b1 : decide (0 < l0_1.length) = false := decide_eq_false (by omega)
      clear c16
      (first | rw [c16b0] | (simp only [i64_w, i32_w]; rw [c16b0]) | skip)
      have H' := Aside0.mk H
      clear H
      have hnb22 := NB206_207.out
      have hnc22 := NB207_206.out
      have hnb23 := NB206_208.out
      have hnc23 := NB208_206.out
      obtain ⟨hcz24_0, hcz24_1, hfz24_0, hfz24_1⟩ := cz2_ BK206
      go_wp2
      go_meet
      case rel => exact ⟨_, (false), (by first | rfl | (simp; done) | (simp [*]; done)), H', ⟨by first | omega | exact Nat.le_refl _⟩, ⟨by (with_reducible repeat (first | refine blk_drewN ?_ _ | refine blk_drew ?_ | refine blk_alloc ?_ _)); exact BK206.out⟩, ⟨by (with_reducible repeat (first | refine blk_drewN ?_ _ | refine blk_drew ?_ | refine blk_alloc ?_ _)); exact BK207.out⟩, ⟨by (with_reducible repeat (first | refine blk_drewN ?_ _ | refine blk_drew ?_ | refine blk_alloc ?_ _)); exact BK208.out⟩, ⟨HB_⟩⟩
    rw [if_pos c16] at H
    have c16b0 : decide (0 < (l0_1.length : Int)) = true := decide_eq_true c16
    have c16b1 : decide (0 < l0_1.length) = true := decide_eq_true (by omega)
    clear c16
    (first | rw [c16b0] | (simp only [i64_w, i32_w]; rw [c16b0]) | skip)
    have H' := Aside0.mk H
    clear H
    have hnb17 := NB206_207.out
    have hnc17 := NB207_206.out
    have hnb18 := NB206_208.out
    have hnc18 := NB208_206.out
    obtain ⟨hcz19_0, hcz19_1, hfz19_0, hfz19_1⟩ := cz2_ BK206
    have hnb20 := NB207_208.out
    have hnc20 := NB208_207.out
    obtain ⟨hcz21_0, hcz21_1, hfz21_0, hfz21_1⟩ := cz2_ BK207
    go_wp2
    go_meet
    case rel => exact ⟨_, (decide ((l1_1.length : Int) > 0)), (by first | rfl | (simp; done) | (simp [*]; done)), H', ⟨by first | omega | exact Nat.le_refl _⟩, ⟨by (with_reducible repeat (first | refine blk_drewN ?_ _ | refine blk_drew ?_ | refine blk_alloc ?_ _)); exact BK206.out⟩, ⟨by (with_reducible repeat (first | refine blk_drewN ?_ _ | refine blk_drew ?_ | refine blk_alloc ?_ _)); exact BK207.out⟩, ⟨by (with_reducible repeat (first | refine blk_drewN ?_ _ | refine blk_drew ?_ | refine blk_alloc ?_ _)); exact BK208.out⟩, ⟨HB_⟩⟩
  case rest =>
    clear HC6
    try clear c1
    try clear c2
    try clear p2
    try clear c5
    try clear c5b0
    try clear c5b1
    try clear c7
    try clear c10
    try clear c11
    try clear c13
    try clear c16
    try clear c16b0
    try clear c16b1
    try clear c17
    try clear c18
    try clear c20
    try clear c22
    try clear c23
    try clear hcz12_0
    try clear hcz12_1
    try clear hcz14_0
    try clear hcz14_1
    try clear hcz19_0
    try clear hcz19_1
    try clear hcz21_0
    try clear hcz21_1
    try clear hcz24_0
    try clear hcz24_1
    try clear hfz12_0
    try clear hfz12_1
    try clear hfz14_0
    try clear hfz14_1
    try clear hfz19_0
    try clear hfz19_1
    try clear hfz21_0
    try clear hfz21_1
    try clear hfz24_0
    try clear hfz24_1
    obtain ⟨kq, x19_5, rfl, HA, HJ5, BK206, BK207, BK208, HB⟩ := hcut
    cases kq with
    | zero => exact absurd HA.out (by simp [zone_both_v1.j0])
    | succ kj5 =>
      have H := HA.out
      clear HA
      simp only [zone_both_v1.j0] at H
      by_cases c25 : x19_5 = true
      · subst c25
        have H1 : ((zone_mixed_v1.f kj5 a0_0 l0_1 a1_0 l1_1).bind fun bt210 => (some (bt210.1, bt210.2, 0))) = some (r1, r2, r3) := by rw [if_pos rfl] at H; exact H
        clear H
        have H := H1
        clear H1
        replace H := Option.bind_eq_some_iff.mp H
        obtain ⟨⟨t210, t211⟩, A260, H⟩ := H
        replace H : (some (t210, t211, 0)) = some (r1, r2, r3) := H
        have A26 := Aside0.mk A260
        clear A260
        simp only [Option.some.injEq, Prod.mk.injEq] at H
        obtain ⟨rfl, rfl, rfl⟩ := H
        have hnb27 := NB206_207.out
        have hnc27 := NB207_206.out
        have hnb28 := NB206_208.out
        have hnc28 := NB208_206.out
        obtain ⟨hcz29_0, hcz29_1, hfz29_0, hfz29_1⟩ := cz2_ BK206
        have hnb30 := NB207_208.out
        have hnc30 := NB208_207.out
        obtain ⟨hcz31_0, hcz31_1, hfz31_0, hfz31_1⟩ := cz2_ BK207
        go_wp2_with (first | ((with_reducible refine gate_callee (f := 102) rfl ?_); refine goesL_ (some 33) rfl rfl Try.func102 (by kernel_rfl) rfl #[.agg #[.int .i64 a0_0, .slice A0_1 l0_1.length c0_1], .agg #[.int .i64 a1_0, .slice A1_1 l1_1.length c1_1], .func (.func 78) #[] #[]] rfl MP_ ?_; (with_reducible refine (zone_mixed_v1.calls kj5 a0_0 _ _ l0_1 a1_0 _ _ l1_1 t210 t211 _ ?side1 ?side2 ?side3 ?side4 A26.out).mono ?_); (case side1 => exact sd_ (Kd.C_below HR0_1.out HB.out)); (case side2 => exact HC0_1.out); (case side3 => exact sd_ (Kd.C_below HR1_1.out HB.out)); (case side4 => exact HC1_1.out); rintro e w32 ⟨v212, rfl, ho0, hb⟩; refine ⟨_, rfl, ?_⟩; have n_ := a_ (Aside0.mk (Kd.R_lower ho0 (below_size HB_))) (a_ (bb_ BK206 hb) (a_ (bb_ BK207 hb) (a_ (bb_ BK208 hb) (bs_ HB hb)))); clear BK206 BK207 BK208 HB; obtain ⟨HO213, BK206, BK207, BK208, HB⟩ := n_; (try clear hb); (try clear hb2); (try clear hk); (try clear hi); (try clear ho0); obtain ⟨hcz33_0, hcz33_1, hfz33_0, hfz33_1⟩ := cz2_ BK208; obtain ⟨Ao34, co34, eo34⟩ := Kd.R_slice HO213.out; subst eo34))
        refine bodyPost_ret (results_ct rfl _ _ gb208 24 #[.int .i64 t210, .slice Ao34 t211.length co34] (0, 0) _ rfl (bk2_ BK208.out) Try.underlying24 rfl (by kernel_rfl)) rfl ?_
        exact ⟨_, by first | rfl | (simp [errW_none, errW_some] <;> rfl) | (simp [*, errW_none, errW_some] <;> rfl), by (with_reducible repeat (first | apply Kd.R_alloc | apply Kd.R_drewN | apply Kd.R_drew)); exact Kd.R_mono (Kd.R_far (p := ⟨gb208, 1, none⟩) (Kd.R_far (p := ⟨gb208, 0, none⟩) (Kd.R_types HO213.out BK208.out (by decide)) (fun _ hk => hk.2) (.int .i64 t210)) (fun _ hk => hk.2) (.slice Ao34 t211.length co34)) (fun _ hk => trivial), HB_⟩
      replace c25 := Bool.eq_false_iff.mpr c25
      subst c25
      have H1 : (if a2 = true then (if (l0_1.length : Int) = 0 then ((slices_Clone_int_int.f l1_1).bind fun t214 => (some (a1_0, t214, 0))) else ((slices_Clone_int_int.f l0_1).bind fun t217 => (some (a0_0, t217, 0)))) else ((zone_empty.f a0_0 l0_1).bind fun bt220 => (some (bt220.1, bt220.2, 0)))) = some (r1, r2, r3) := by rw [if_neg (show ¬ (false = true) by decide)] at H; exact H
      clear H
      have H := H1
      clear H1
      by_cases c35 : a2 = true
      rotate_left
      · replace c35 := Bool.eq_false_iff.mpr c35
        subst c35
        have H1 : ((zone_empty.f a0_0 l0_1).bind fun bt220 => (some (bt220.1, bt220.2, 0))) = some (r1, r2, r3) := by rw [if_neg (show ¬ (false = true) by decide)] at H; exact H
        clear H
        have H := H1
        clear H1
        replace H := Option.bind_eq_some_iff.mp H
        obtain ⟨⟨t220, t221⟩, A580, H⟩ := H
        replace H : (some (t220, t221, 0)) = some (r1, r2, r3) := H
        have A58 := Aside0.mk A580
        clear A580
        simp only [Option.some.injEq, Prod.mk.injEq] at H
        obtain ⟨rfl, rfl, rfl⟩ := H
        have hnb59 := NB206_207.out
        have hnc59 := NB207_206.out
        have hnb60 := NB206_208.out
        have hnc60 := NB208_206.out
        obtain ⟨hcz61_0, hcz61_1, hfz61_0, hfz61_1⟩ := cz2_ BK206
        go_wp2_with (first | ((with_reducible refine gate_callee (f := 68) rfl ?_); refine goesL_ (some 38) rfl rfl Try.func68 (by kernel_rfl) rfl #[.agg #[.int .i64 a0_0, .slice A0_1 l0_1.length c0_1]] rfl MP_ ?_; (with_reducible refine (zone_empty.calls a0_0 _ _ l0_1 t220 t221 _ ?side1 ?side2 A58.out).mono ?_); (case side1 => exact sd_ (Kd.C_below HR0_1.out HB.out)); (case side2 => exact HC0_1.out); rintro e w62 ⟨v222, rfl, ho0, hb⟩; refine ⟨_, rfl, ?_⟩; have n_ := a_ (Aside0.mk (Kd.R_lower ho0 (below_size HB_))) (a_ (bb_ BK206 hb) (a_ (bb_ BK207 hb) (a_ (bb_ BK208 hb) (bs_ HB hb)))); clear BK206 BK207 BK208 HB; obtain ⟨HO223, BK206, BK207, BK208, HB⟩ := n_; (try clear hb); (try clear hb2); (try clear hk); (try clear hi); (try clear ho0); have hnb63 := NB208_207.out; have hnc63 := NB207_208.out; obtain ⟨hcz64_0, hcz64_1, hfz64_0, hfz64_1⟩ := cz2_ BK208; obtain ⟨Ao65, co65, eo65⟩ := Kd.R_slice HO223.out; subst eo65))
        refine bodyPost_ret (results_ct rfl _ _ gb208 24 #[.int .i64 t220, .slice Ao65 t221.length co65] (0, 0) _ rfl (bk2_ BK208.out) Try.underlying24 rfl (by kernel_rfl)) rfl ?_
        exact ⟨_, by first | rfl | (simp [errW_none, errW_some] <;> rfl) | (simp [*, errW_none, errW_some] <;> rfl), by (with_reducible repeat (first | apply Kd.R_alloc | apply Kd.R_drewN | apply Kd.R_drew)); exact Kd.R_mono (Kd.R_far (p := ⟨gb208, 1, none⟩) (Kd.R_far (p := ⟨gb208, 0, none⟩) (Kd.R_types HO223.out BK208.out (by decide)) (fun _ hk => hk.2) (.int .i64 t220)) (fun _ hk => hk.2) (.slice Ao65 t221.length co65)) (fun _ hk => trivial), HB_⟩
      subst c35
      have H1 : (if (l0_1.length : Int) = 0 then ((slices_Clone_int_int.f l1_1).bind fun t214 => (some (a1_0, t214, 0))) else ((slices_Clone_int_int.f l0_1).bind fun t217 => (some (a0_0, t217, 0)))) = some (r1, r2, r3) := by rw [if_pos rfl] at H; exact H
      clear H
      have H := H1
      clear H1
      by_cases c36 : (l0_1.length : Int) = 0
      rotate_left
      · rw [if_neg c36] at H
        have c36b0 : ((l0_1.length : Int) == 0) = false := beq_eq_false_iff_ne.mpr c36
        have c36b1 : ((l0_1.length : Int) != 0) = true := bne_iff_ne.mpr c36
        have c36b2 : ¬ (l0_1 = []) := fun h_ => c36 (by rw [h_]; rfl)
        replace H := Option.bind_eq_some_iff.mp H
        obtain ⟨t217, A490, H⟩ := H
        replace H : (some (a0_0, t217, 0)) = some (r1, r2, r3) := H
        have A49 := Aside0.mk A490
        clear A490
        simp only [Option.some.injEq, Prod.mk.injEq] at H
        obtain ⟨rfl, rfl, rfl⟩ := H
        have hnb50 := NB206_207.out
        have hnc50 := NB207_206.out
        have hnb51 := NB206_208.out
        have hnc51 := NB208_206.out
        obtain ⟨hcz52_0, hcz52_1, hfz52_0, hfz52_1⟩ := cz2_ BK206
        try go_wp2
        have n_ := a_ (Aside0.mk (blk_drew BK206.out)) (a_ (Aside0.mk (blk_drew BK207.out)) (a_ (Aside0.mk (blk_drew BK208.out)) (Aside0.mk (below_drew1 HB.out))))
        clear BK206 BK207 BK208 HB
        obtain ⟨BK206, BK207, BK208, HB⟩ := n_
        refine start_ (n := 8) (S := fun w' => w'.cell? ⟨gb206, 0, none⟩ = some (.int .i64 a0_0) ∧ w'.cell? ⟨gb206, 1, none⟩ = some (.slice A0_1 l0_1.length c0_1)) (ds := []) #[false, false, false, false, false, false, false, false] (by kernel_rfl) rfl rfl ⟨(blk_cell BK206.out 0).trans rfl, (blk_cell BK206.out 1).trans rfl⟩ (fun hHeld => ?_); refine with_tabW zone_both_v1.tab10 zone_both_v1.bits10 (fun HT_ HW_ => ?_)
        generalize wc.drew = w53 at BK206 BK207 BK208 HB hHeld ⊢
        refine pu_ 0 (some 45) ?_
        refine pu_ 2 (some 47) ?_
        refine take_ (i := 1) (N := some 46) (v := ?_) (a' := ?_) #[true, true, true, false, false, false, false, false] rfl rfl (take_ofW HT_.out HW_.out (by kernel_rfl)) (fun _ _ _ h => h) (Or.inl ⟨by rfl, ?_⟩) hHeld ?_ ?_
        rotate_left
        · rintro w' ⟨s0, s1⟩
          go_simp
          with_reducible rfl
        rotate_left
        · exact AP_
        refine take_ (i := 3) (N := some 48) (v := ?_) (a' := ?_) #[true, true, true, true, false, false, false, false] rfl rfl (take_ofW HT_.out HW_.out (by kernel_rfl)) (fun _ _ _ h => h) (Or.inl ⟨by rfl, ?_⟩) hHeld ?_ ?_
        rotate_left
        · rintro w' ⟨s0, s1⟩
          go_simp
          with_reducible rfl
        rotate_left
        · exact AP_
        refine on_ 4 (some 49) (fun K hK => ?_)
        refine goes_ Try.func85 (by kernel_rfl) rfl #[.slice A0_1 l0_1.length c0_1] (by rfl) rfl rfl MP_ ?_
        with_reducible refine (slices_Clone_int_int.calls _ _ l0_1 t217 _ ?side1 ?side2 A49.out).mono ?_
        (case side1 => exact sd_ (Kd.C_below HR0_1.out HB.out))
        (case side2 => exact HC0_1.out)
        rintro e w54 ⟨v218, rfl, ho0, hb⟩
        refine ⟨_, rfl, ?_⟩
        have n_ := a_ (Aside0.mk (Kd.R_lower ho0 (below_size HB_))) (a_ (bb_ BK206 hb) (a_ (bb_ BK207 hb) (a_ (bb_ BK208 hb) (bs_ HB hb))))
        clear BK206 BK207 BK208 HB
        obtain ⟨HO219, BK206, BK207, BK208, HB⟩ := n_
        (try clear hb)
        (try clear hb2)
        (try clear hk)
        (try clear hi)
        (try clear ho0)
        obtain ⟨Ao55, co55, eo55⟩ := Kd.R_slice HO219.out
        (first | subst eo55 | (injection eo55 with f1_ f2_ f3_; have f4_ := f1_.symm; have f5_ := f3_.symm; clear f1_ f2_ f3_; subst f4_; subst f5_))
        refine hK.out _ _ ⟨(blk_cell BK206.out 0).trans rfl, (blk_cell BK206.out 1).trans rfl⟩ (fun hHeld => ?_)
        clear hK K
        refine nm_ ?_
        refine pu_ 5 (some 50) ?_
        refine on_ 6 (none) (fun K hK => ?_)
        have hs56 : w54.cell? ⟨gb208, 0, none⟩ = some (.int .i64 0) := (blk_cell BK208.out 0).trans rfl
        have hfs56 := blk_frozen BK208.out 0
        have hns56_0 := NB206_208.out
        have hns56_1 := NB207_208.out
        have hms56_0 := NB208_206.out
        have hms56_1 := NB208_207.out
        have hs57 : w54.cell? ⟨gb208, 1, none⟩ = some (.slice none 0 0) := (blk_cell BK208.out 1).trans rfl
        have hfs57 := blk_frozen BK208.out 1
        have hns57_0 := NB206_208.out
        have hns57_1 := NB207_208.out
        have hms57_0 := NB208_206.out
        have hms57_1 := NB208_207.out
        refine skip_ (w1 := ?_) (by rfl) rfl ?_ ?_
        rotate_left
        · go_simp
          rfl
        refine hK.out _ _ ⟨((cell_far (p := ⟨gb208, _, none⟩) NB206_208.out _).trans (((cell_far (p := ⟨gb208, _, none⟩) NB206_208.out _).trans (hHeld.1)))), ((cell_far (p := ⟨gb208, _, none⟩) NB206_208.out _).trans (((cell_far (p := ⟨gb208, _, none⟩) NB206_208.out _).trans (hHeld.2))))⟩ (fun hHeld => ?_)
        clear hK K
        refine pu_ 7 (some 9) ?_
        refine done_ (done_of HT_.out (by kernel_rfl)) ?_
        try go_wp2
        refine bodyPost_ret (results_ct rfl _ _ gb208 24 #[.int .i64 a0_0, .slice Ao55 t217.length co55] (0, 0) _ rfl (bk2_ BK208.out) Try.underlying24 rfl (by kernel_rfl)) rfl ?_
        exact ⟨_, by first | rfl | (simp [errW_none, errW_some] <;> rfl) | (simp [*, errW_none, errW_some] <;> rfl), by (with_reducible repeat (first | apply Kd.R_alloc | apply Kd.R_drewN | apply Kd.R_drew)); exact Kd.R_mono (Kd.R_far (p := ⟨gb208, 1, none⟩) (Kd.R_far (p := ⟨gb208, 0, none⟩) (Kd.R_types HO219.out BK208.out (by decide)) (fun _ hk => hk.2) (.int .i64 a0_0)) (fun _ hk => hk.2) (.slice Ao55 t217.length co55)) (fun _ hk => trivial), HB_⟩
      rw [if_pos c36] at H
      have c36b0 : ((l0_1.length : Int) == 0) = true := beq_iff_eq.mpr c36
      have c36b1 : ((l0_1.length : Int) != 0) = false := bne_eq_false_iff_eq.mpr c36
      clear c36
      replace H := Option.bind_eq_some_iff.mp H
      obtain ⟨t214, A370, H⟩ := H
      replace H : (some (a1_0, t214, 0)) = some (r1, r2, r3) := H
      have A37 := Aside0.mk A370
      clear A370
      simp only [Option.some.injEq, Prod.mk.injEq] at H
      obtain ⟨rfl, rfl, rfl⟩ := H
      have hnb38 := NB206_207.out
      have hnc38 := NB207_206.out
      have hnb39 := NB206_208.out
      have hnc39 := NB208_206.out
      obtain ⟨hcz40_0, hcz40_1, hfz40_0, hfz40_1⟩ := cz2_ BK206
      have hnb41 := NB207_208.out
      have hnc41 := NB208_207.out
      obtain ⟨hcz42_0, hcz42_1, hfz42_0, hfz42_1⟩ := cz2_ BK207
      try go_wp2
      have n0_ : Aside0 (((wc.setCell ⟨gb206, 0, none⟩ (.int .i64 a1_0)).setCell ⟨gb206, 1, none⟩ (.slice A1_1 l1_1.length c1_1)).heap[gb206]? = some (.cells #[.int .i64 a1_0, .slice A1_1 l1_1.length c1_1] 24 (0, 0))) := ⟨by (with_reducible repeat (first | refine blk_drewN ?_ _ | refine blk_drew ?_ | refine blk_alloc ?_ _)); refine blk_put (cs := #[.int .i64 a1_0, .slice A0_1 l0_1.length c0_1]) ?_ 1 _ rfl; (with_reducible repeat (first | refine blk_drewN ?_ _ | refine blk_drew ?_ | refine blk_alloc ?_ _)); refine blk_put (cs := #[.int .i64 a0_0, .slice A0_1 l0_1.length c0_1]) ?_ 0 _ rfl; (with_reducible repeat (first | refine blk_drewN ?_ _ | refine blk_drew ?_ | refine blk_alloc ?_ _)); exact BK206.out⟩
      have n1_ : Aside0 (((wc.setCell ⟨gb206, 0, none⟩ (.int .i64 a1_0)).setCell ⟨gb206, 1, none⟩ (.slice A1_1 l1_1.length c1_1)).heap[gb207]? = some (.cells #[.int .i64 a1_0, .slice A1_1 l1_1.length c1_1] 24 (0, 0))) := ⟨by (with_reducible repeat (first | refine blk_drewN ?_ _ | refine blk_drew ?_ | refine blk_alloc ?_ _)); refine blk_far ?_ NB207_206.out _; (with_reducible repeat (first | refine blk_drewN ?_ _ | refine blk_drew ?_ | refine blk_alloc ?_ _)); refine blk_far ?_ NB207_206.out _; (with_reducible repeat (first | refine blk_drewN ?_ _ | refine blk_drew ?_ | refine blk_alloc ?_ _)); exact BK207.out⟩
      have n2_ : Aside0 (((wc.setCell ⟨gb206, 0, none⟩ (.int .i64 a1_0)).setCell ⟨gb206, 1, none⟩ (.slice A1_1 l1_1.length c1_1)).heap[gb208]? = some (.cells #[.int .i64 0, .slice none 0 0] 24 (0, 0))) := ⟨by (with_reducible repeat (first | refine blk_drewN ?_ _ | refine blk_drew ?_ | refine blk_alloc ?_ _)); refine blk_far ?_ NB208_206.out _; (with_reducible repeat (first | refine blk_drewN ?_ _ | refine blk_drew ?_ | refine blk_alloc ?_ _)); refine blk_far ?_ NB208_206.out _; (with_reducible repeat (first | refine blk_drewN ?_ _ | refine blk_drew ?_ | refine blk_alloc ?_ _)); exact BK208.out⟩
      have n3_ : Aside0 (Below w.heap.size w ((wc.setCell ⟨gb206, 0, none⟩ (.int .i64 a1_0)).setCell ⟨gb206, 1, none⟩ (.slice A1_1 l1_1.length c1_1))) := ⟨HB_⟩
      (try clear BK206)
      (try clear BK207)
      (try clear BK208)
      (try clear HB)
      generalize ((wc.setCell ⟨gb206, 0, none⟩ (.int .i64 a1_0)).setCell ⟨gb206, 1, none⟩ (.slice A1_1 l1_1.length c1_1)) = w43 at n0_ n1_ n2_ n3_ ⊢
      have BK206 := n0_
      have BK207 := n1_
      have BK208 := n2_
      have HB := n3_
      clear n0_ n1_ n2_ n3_
      first | (obtain ⟨w43, hq_⟩ : ∃ x, x = w43.drewN nd := ⟨_, rfl⟩; rw [← hq_]; have q0_ := Aside0.mk (blk_drewN BK206.out nd); rw [← hq_] at q0_; have q1_ := Aside0.mk (blk_drewN BK207.out nd); rw [← hq_] at q1_; have q2_ := Aside0.mk (blk_drewN BK208.out nd); rw [← hq_] at q2_; have q3_ := Aside0.mk (pw_below_drewN HB.out nd); rw [← hq_] at q3_; clear BK206; clear BK207; clear BK208; clear HB; have BK206 := q0_; have BK207 := q1_; have BK208 := q2_; have HB := q3_; clear hq_ q0_ q1_ q2_ q3_) | skip
      have n_ := a_ (Aside0.mk (blk_drew BK206.out)) (a_ (Aside0.mk (blk_drew BK207.out)) (a_ (Aside0.mk (blk_drew BK208.out)) (Aside0.mk (below_drew1 HB.out))))
      clear BK206 BK207 BK208 HB
      obtain ⟨BK206, BK207, BK208, HB⟩ := n_
      refine start_ (n := 8) (S := fun w' => w'.cell? ⟨gb206, 0, none⟩ = some (.int .i64 a1_0) ∧ w'.cell? ⟨gb206, 1, none⟩ = some (.slice A1_1 l1_1.length c1_1)) (ds := []) #[false, false, false, false, false, false, false, false] (by kernel_rfl) rfl rfl ⟨(blk_cell BK206.out 0).trans rfl, (blk_cell BK206.out 1).trans rfl⟩ (fun hHeld => ?_); refine with_tabW zone_both_v1.tab10 zone_both_v1.bits10 (fun HT_ HW_ => ?_)
      generalize w43.drew = w44 at BK206 BK207 BK208 HB hHeld ⊢
      refine pu_ 0 (some 45) ?_
      refine pu_ 2 (some 47) ?_
      refine take_ (i := 1) (N := some 46) (v := ?_) (a' := ?_) #[true, true, true, false, false, false, false, false] rfl rfl (take_ofW HT_.out HW_.out (by kernel_rfl)) (fun _ _ _ h => h) (Or.inl ⟨by rfl, ?_⟩) hHeld ?_ ?_
      rotate_left
      · rintro w' ⟨s0, s1⟩
        go_simp
        with_reducible rfl
      rotate_left
      · exact AP_
      refine take_ (i := 3) (N := some 48) (v := ?_) (a' := ?_) #[true, true, true, true, false, false, false, false] rfl rfl (take_ofW HT_.out HW_.out (by kernel_rfl)) (fun _ _ _ h => h) (Or.inl ⟨by rfl, ?_⟩) hHeld ?_ ?_
      rotate_left
      · rintro w' ⟨s0, s1⟩
        go_simp
        with_reducible rfl
      rotate_left
      · exact AP_
      refine on_ 4 (some 49) (fun K hK => ?_)
      refine goes_ Try.func85 (by kernel_rfl) rfl #[.slice A1_1 l1_1.length c1_1] (by rfl) rfl rfl MP_ ?_
      with_reducible refine (slices_Clone_int_int.calls _ _ l1_1 t214 _ ?side1 ?side2 A37.out).mono ?_
      (case side1 => exact sd_ (Kd.C_below HR1_1.out HB.out))
      (case side2 => exact HC1_1.out)
      rintro e w45 ⟨v215, rfl, ho0, hb⟩
      refine ⟨_, rfl, ?_⟩
      have n_ := a_ (Aside0.mk (Kd.R_lower ho0 (below_size HB_))) (a_ (bb_ BK206 hb) (a_ (bb_ BK207 hb) (a_ (bb_ BK208 hb) (bs_ HB hb))))
      clear BK206 BK207 BK208 HB
      obtain ⟨HO216, BK206, BK207, BK208, HB⟩ := n_
      (try clear hb)
      (try clear hb2)
      (try clear hk)
      (try clear hi)
      (try clear ho0)
      obtain ⟨Ao46, co46, eo46⟩ := Kd.R_slice HO216.out
      (first | subst eo46 | (injection eo46 with f1_ f2_ f3_; have f4_ := f1_.symm; have f5_ := f3_.symm; clear f1_ f2_ f3_; subst f4_; subst f5_))
      refine hK.out _ _ ⟨(blk_cell BK206.out 0).trans rfl, (blk_cell BK206.out 1).trans rfl⟩ (fun hHeld => ?_)
      clear hK K
      refine nm_ ?_
      refine pu_ 5 (some 50) ?_
      refine on_ 6 (none) (fun K hK => ?_)
      have hs47 : w45.cell? ⟨gb208, 0, none⟩ = some (.int .i64 0) := (blk_cell BK208.out 0).trans rfl
      have hfs47 := blk_frozen BK208.out 0
      have hns47_0 := NB206_208.out
      have hns47_1 := NB207_208.out
      have hms47_0 := NB208_206.out
      have hms47_1 := NB208_207.out
      have hs48 : w45.cell? ⟨gb208, 1, none⟩ = some (.slice none 0 0) := (blk_cell BK208.out 1).trans rfl
      have hfs48 := blk_frozen BK208.out 1
      have hns48_0 := NB206_208.out
      have hns48_1 := NB207_208.out
      have hms48_0 := NB208_206.out
      have hms48_1 := NB208_207.out
      refine skip_ (w1 := ?_) (by rfl) rfl ?_ ?_
      rotate_left
      · go_simp
        rfl
      refine hK.out _ _ ⟨((cell_far (p := ⟨gb208, _, none⟩) NB206_208.out _).trans (((cell_far (p := ⟨gb208, _, none⟩) NB206_208.out _).trans (hHeld.1)))), ((cell_far (p := ⟨gb208, _, none⟩) NB206_208.out _).trans (((cell_far (p := ⟨gb208, _, none⟩) NB206_208.out _).trans (hHeld.2))))⟩ (fun hHeld => ?_)
      clear hK K
      refine pu_ 7 (some 9) ?_
      refine done_ (done_of HT_.out (by kernel_rfl)) ?_
      try go_wp2
      refine bodyPost_ret (results_ct rfl _ _ gb208 24 #[.int .i64 a1_0, .slice Ao46 t214.length co46] (0, 0) _ rfl (bk2_ BK208.out) Try.underlying24 rfl (by kernel_rfl)) rfl ?_
      exact ⟨_, by first | rfl | (simp [errW_none, errW_some] <;> rfl) | (simp [*, errW_none, errW_some] <;> rfl), by (with_reducible repeat (first | apply Kd.R_alloc | apply Kd.R_drewN | apply Kd.R_drew)); exact Kd.R_mono (Kd.R_far (p := ⟨gb208, 1, none⟩) (Kd.R_far (p := ⟨gb208, 0, none⟩) (Kd.R_types HO216.out BK208.out (by decide)) (fun _ hk => hk.2) (.int .i64 a1_0)) (fun _ hk => hk.2) (.slice Ao46 t214.length co46)) (fun _ hk => trivial), HB_⟩
end Go.Proofs.Ytgeemdpflcefkaa.Z
