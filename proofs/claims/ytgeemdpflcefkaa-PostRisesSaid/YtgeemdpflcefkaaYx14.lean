import Derived.Test.YtgeemdpflcefkaaYx0
import Derived.Test.YtgeemdpflcefkaaYx2
import Derived.Test.YtgeemdpflcefkaaYx3
import Derived.Test.YtgeemdpflcefkaaYx8
import Derived.Test.YtgeemdpflcefkaaYx12
namespace Go.Proofs.Ytgeemdpflcefkaa.Y
open Go.RowKit Go.Proofs.YtgeemdpflcefkaaW.PrintWords Go.Proofs.YtgeemdpflcefkaaW.PrintLast Go.Proofs.YtgeemdpflcefkaaW.PrintMore
attribute [local go_sem] max2_int min2_int max_two min_two max_three min_three max_four min_four   -- for this text's walks alone
set_option linter.unusedVariables false
set_option linter.unusedSimpArgs false
def zone_mixed_v1.l0 : Nat → List Int → Int → Int → Int → List Int → Int → List Int → Option (Int × List Int)
 | 0, _, _, _, _, _, _, _ => none
 | k + 1, x7, x15, x16, x198000, x198001, x199000, x199001 => if x16 < x15 then (if 0 ≤ x16 then (if x16 < (x7.length : Int) then (if x16 < (x199001.length : Int) then ((zone_Join_1.f (rd x7 x16) (rd x199001 x16)).bind fun t205 => (zone_mixed_v1.l0 k (x7.set (x16 : Int).toNat t205) x15 (wrap64 (x16 + 1)) x198000 x198001 x199000 x199001)) else (none)) else (none)) else (none)) else ((dbm_Close.f k x198000 x7).bind fun bt207 => (some (bt207.1, bt207.2.1)))
def zone_mixed_v1.f (k : Nat) (a0_0 : Int) (l0_1 : List Int) (a1_0 : Int) (l1_1 : List Int) : Option (Int × List Int) := (slices_Clone_int_int.f l0_1).bind fun t200 => (zone_mixed_v1.l0 k t200 (t200.length : Int) 0 a0_0 l0_1 a1_0 l1_1)
def zone_mixed_v1.T5 : Bool × List (List Nat × List Nat) := (true, [([], []), ([], []), ([], []), ([], []), ([], []), ([3, 4], [3, 4]), ([5], [5]), ([], []), ([7], [7]), ([], []), ([8, 9], [8, 9]), ([10], [10]), ([2, 6, 11], [2, 6, 11]), ([0, 1, 0, 1, 2, 3, 4, 5, 6, 7, 8, 9, 10, 11, 12], [0, 1]), ([13, 12, 12, 0, 1, 2, 3, 4, 5, 6, 7, 8, 9, 10, 11, 12], [12, 13])])
def zone_mixed_v1.B5 : List Nat := [0, 0, 0, 0, 0, 24, 56, 0, 128, 0, 896, 1920, 4092, 8191, 16383]
theorem zone_mixed_v1.tab5 : rtab .any (opsOf Try.f102 5) = zone_mixed_v1.T5 := by kernel_rfl
theorem zone_mixed_v1.bits5 : waitsOk zone_mixed_v1.T5.2 zone_mixed_v1.B5 = true := by kernel_rfl
set_option maxHeartbeats 8000000 in
set_option maxRecDepth 100000 in
theorem zone_mixed_v1.calls (k : Nat) (a0_0 : Int) (A0_1 : Option Addr) (c0_1 : Nat) (l0_1 : List Int) (a1_0 : Int) (A1_1 : Option Addr) (c1_1 : Nat) (l1_1 : List Int) (r1 : Int) (r2 : List Int) (w : World) (hr0_1 : Kd.C (Kd.int .i64) w A0_1 l0_1.length l0_1) (hc0_1 : l0_1.length ≤ c0_1) (hr1_1 : Kd.C (Kd.int .i64) w A1_1 l1_1.length l1_1) (hc1_1 : l1_1.length ≤ c1_1) (h : zone_mixed_v1.f k a0_0 l0_1 a1_0 l1_1 = some (r1, r2)) :
  Calls Try.prog 102 #[.agg #[.int .i64 a0_0, .slice A0_1 l0_1.length c0_1], .agg #[.int .i64 a1_0, .slice A1_1 l1_1.length c1_1], .func (.func 78) #[] #[]] w fun e w' => ∃ v1_ : Value, e = .returned (.agg #[.int .i64 r1, v1_]) ∧ Kd.R (Kd.int .i64) 3 w' w.heap.size (fun _ => True) v1_ r2 ∧ Below w.heap.size w w' := by
 have hu24 := Try.underlying24
 have HR0_1 := Aside0.mk hr0_1
 have HC0_1 := Aside0.mk hc0_1
 clear hr0_1 hc0_1
 have HR1_1 := Aside0.mk hr1_1
 have HC1_1 := Aside0.mk hc1_1
 clear hr1_1 hc1_1
 have HB := Aside0.mk (Below.refl w.heap.size w)
 have H : ((slices_Clone_int_int.f l0_1).bind fun t200 => (zone_mixed_v1.l0 k t200 (t200.length : Int) 0 a0_0 l0_1 a1_0 l1_1)) = some (r1, r2) := h
 clear h
 replace H := Option.bind_eq_some_iff.mp H
 obtain ⟨t200, A30, H⟩ := H
 replace H : (zone_mixed_v1.l0 k t200 (t200.length : Int) 0 a0_0 l0_1 a1_0 l1_1) = some (r1, r2) := H
 have A3 := Aside0.mk A30
 clear A30
 have H' := Aside0.mk H
 clear H
 go_enter Try.func102, Try.ntmps102
 go_wp2_with (first | ((with_reducible refine gate_dst (N := 3) rfl ?_); refine bx_ (N := 3) (cs := #[.int .i64 a0_0, .slice A0_1 l0_1.length c0_1]) (t := 24) ?_; intro gb197 hg w4 hbox hb; have n_ := a_ (bs_ HB hb) (a_ (Aside0.mk hbox) (a_ (gs_ HB hg) (gs_ HB hg))); clear HB; obtain ⟨HB, BK197, GW197, GE197⟩ := n_; clear hb hbox hg) | ((with_reducible refine gate_dst (N := 4) rfl ?_); refine bx_ (N := 4) (cs := #[.int .i64 a1_0, .slice A1_1 l1_1.length c1_1]) (t := 24) ?_; intro gb198 hg w5 hbox hb; have n_ := a_ (bb_ BK197 hb) (a_ (bs_ HB hb) (a_ (Aside0.mk hbox) (a_ (gs_ HB hg) (a_ (gs_ HB hg) (a_ (nl_ BK197 hg) (ng_ BK197 hg)))))); clear BK197 HB; obtain ⟨BK197, HB, BK198, GW198, GE198, NB197_198, NB198_197⟩ := n_; clear hb hbox hg) | ((with_reducible refine gate_dst (N := 6) rfl ?_); refine bx_ (N := 6) (cs := #[.int .i64 0, .slice none 0 0]) (t := 24) ?_; intro gb199 hg w6 hbox hb; have n_ := a_ (bb_ BK197 hb) (a_ (bb_ BK198 hb) (a_ (bs_ HB hb) (a_ (Aside0.mk hbox) (a_ (gs_ HB hg) (a_ (gs_ HB hg) (a_ (nl_ BK197 hg) (a_ (ng_ BK197 hg) (a_ (nl_ BK198 hg) (ng_ BK198 hg))))))))); clear BK197 BK198 HB; obtain ⟨BK197, BK198, HB, BK199, GW199, GE199, NB197_199, NB199_197, NB198_199, NB199_198⟩ := n_; clear hb hbox hg; have hnb7 := NB197_198.out; have hnc7 := NB198_197.out; have hnb8 := NB197_199.out; have hnc8 := NB199_197.out; obtain ⟨hcz9_0, hcz9_1, hfz9_0, hfz9_1⟩ := cz2_ BK197) | ((with_reducible refine gate_callee (f := 85) rfl ?_); refine goesL_ (some 13) rfl rfl Try.func85 (by kernel_rfl) rfl #[.slice A0_1 l0_1.length c0_1] rfl MP_ ?_; (with_reducible refine (slices_Clone_int_int.calls _ _ l0_1 t200 _ ?side1 ?side2 A3.out).mono ?_); (case side1 => exact sd_ (Kd.C_below HR0_1.out HB.out)); (case side2 => exact HC0_1.out); rintro e w10 ⟨v201, rfl, ho0, hb⟩; refine ⟨_, rfl, ?_⟩; have n_ := a_ (Aside0.mk (Kd.R_lower ho0 (below_size HB_))) (a_ (bb_ BK197 hb) (a_ (bb_ BK198 hb) (a_ (bb_ BK199 hb) (bs_ HB hb)))); clear BK197 BK198 BK199 HB; obtain ⟨HO202, BK197, BK198, BK199, HB⟩ := n_; (try clear hb); (try clear hb2); (try clear hk); (try clear hi); (try clear ho0); obtain ⟨Ao11, co11, eo11⟩ := Kd.R_slice HO202.out; subst eo11))
 go_loopg [16] k (fun kq v16 w' => ∃ (x7_1 : List Int) (x16_1 : Int), v16 = .int .i64 x16_1 ∧ Aside0 (zone_mixed_v1.l0 kq x7_1 (t200.length : Int) x16_1 a0_0 l0_1 a1_0 l1_1 = some (r1, r2)) ∧ Aside0 (kq ≤ k) ∧ Aside0 (Kd.R (Kd.int .i64) 3 w' w.heap.size (fun _ => True) (.slice Ao11 t200.length co11) x7_1) ∧ Aside0 (w'.heap[gb197]? = some (.cells #[.int .i64 a0_0, (.slice A0_1 l0_1.length c0_1)] 24 (0, 0))) ∧ Aside0 (w'.heap[gb198]? = some (.cells #[.int .i64 a1_0, (.slice A1_1 l1_1.length c1_1)] 24 (0, 0))) ∧ Aside0 (w'.heap[gb199]? = some (.cells #[.int .i64 0, (.slice none 0 0)] 24 (0, 0))) ∧ Aside0 (Below w.heap.size w w'))
 case atStart => exact ⟨(t200), (0), (by first | rfl | (simp; done) | (simp [*]; done)), H', ⟨Nat.le_refl _⟩, ⟨by (with_reducible repeat (first | apply Kd.R_alloc | apply Kd.R_drewN | apply Kd.R_drew)); exact HO202.out⟩, ⟨by (with_reducible repeat (first | refine blk_drewN ?_ _ | refine blk_drew ?_ | refine blk_alloc ?_ _)); exact BK197.out⟩, ⟨by (with_reducible repeat (first | refine blk_drewN ?_ _ | refine blk_drew ?_ | refine blk_alloc ?_ _)); exact BK198.out⟩, ⟨by (with_reducible repeat (first | refine blk_drewN ?_ _ | refine blk_drew ?_ | refine blk_alloc ?_ _)); exact BK199.out⟩, ⟨HB_⟩⟩
 case round =>
  clear H'
  try clear c1
  try clear p2
  try clear c7
  try clear c8
  try clear c10
  try clear hcz9_0
  try clear hcz9_1
  try clear hfz9_0
  try clear hfz9_1
  obtain ⟨x7_1, x16_1, rfl, HA, HK1, HO_7, BK197, BK198, BK199, HB⟩ := hrel
  have hl7_1 := (Kd.R_reads' HO_7.out).1
  rw [hl7_1] at HO_7
  (try simp only [hl7_1])
  (try simp only [hl7_1] at BK197)
  (try simp only [hl7_1] at BK198)
  (try simp only [hl7_1] at BK199)
  cases gk with
  | zero => exact absurd HA.out (by simp [zone_mixed_v1.l0])
  | succ k1 =>
   have H := HA.out
   clear HA
   simp only [zone_mixed_v1.l0] at H
   by_cases c12 : x16_1 < (t200.length : Int)
   rotate_left
   · rw [if_neg c12] at H
     have c12b0 : decide (x16_1 < (t200.length : Int)) = false := decide_eq_false c12
     (try simp only [hl7_1] at c12b0)
     clear c12
     replace H := Option.bind_eq_some_iff.mp H
     obtain ⟨⟨t207, t208, t211⟩, A210, H⟩ := H
     replace H : (some (t207, t208)) = some (r1, r2) := H
     have A21 := Aside0.mk A210
     clear A210
     simp only [Option.some.injEq, Prod.mk.injEq] at H
     obtain ⟨rfl, rfl⟩ := H
     have hnb22 := NB197_198.out
     have hnc22 := NB198_197.out
     have hnb23 := NB197_199.out
     have hnc23 := NB199_197.out
     obtain ⟨hcz24_0, hcz24_1, hfz24_0, hfz24_1⟩ := cz2_ BK197
     go_wp2_with (first | ((with_reducible refine gate_callee (f := 88) rfl ?_); refine goesL_ (some 38) rfl rfl Try.func88 (by kernel_rfl) rfl #[.int .i64 a0_0, .slice Ao11 x7_1.length co11] rfl MP_ ?_; (with_reducible refine (dbm_Close.calls k1 a0_0 _ _ x7_1 t207 t208 t211 _ ?side1 ?side2 A21.out).mono ?_); (case side1 => repeat (first | exact (Kd.R_reads' HO_7.out).2.2 | (with_reducible refine Kd.C_alloc ?_ _) | (with_reducible refine Kd.C_drewN ?_ _) | (with_reducible refine Kd.C_drew ?_))); (case side2 => exact (Kd.R_reads' HO_7.out).2.1); rintro e w25 ⟨v209, rfl, ho0, hb⟩; refine ⟨_, rfl, ?_⟩; have n_ := a_ (Aside0.mk (Kd.R_elder' (rd_ HO_7.out) (Kd.R_base ho0) hb)) (a_ (Aside0.mk (Kd.R_lower (Kd.R_new' ho0 (Kd.R_lt (rd_ HO_7.out))) (below_size HB_))) (a_ (bb_ BK197 hb) (a_ (bb_ BK198 hb) (a_ (bb_ BK199 hb) (bs_ HB hb))))); clear HO_7 BK197 BK198 BK199 HB; obtain ⟨HO_7, HO210, BK197, BK198, BK199, HB⟩ := n_; (try clear hb); (try clear hb2); (try clear hk); (try clear hi); (try clear ho0)) | ((with_reducible refine gate_dst (N := 9) rfl ?_); refine bx_ (N := 9) (cs := #[.int .i64 0, .slice none 0 0]) (t := 24) ?_; intro gb212 hg w26 hbox hb; have n_ := a_ (rb_ HO_7 hb) (a_ (rb_ HO210 hb) (a_ (bb_ BK197 hb) (a_ (bb_ BK198 hb) (a_ (bb_ BK199 hb) (a_ (bs_ HB hb) (a_ (Aside0.mk hbox) (a_ (gs_ HB hg) (a_ (gs_ HB hg) (a_ (nl_ BK197 hg) (a_ (ng_ BK197 hg) (a_ (nl_ BK198 hg) (a_ (ng_ BK198 hg) (a_ (nl_ BK199 hg) (ng_ BK199 hg)))))))))))))); clear HO_7 HO210 BK197 BK198 BK199 HB; obtain ⟨HO_7, HO210, BK197, BK198, BK199, HB, BK212, GW212, GE212, NB197_212, NB212_197, NB198_212, NB212_198, NB199_212, NB212_199⟩ := n_; clear hb hbox hg; have hnb27 := NB212_197.out; have hnc27 := NB197_212.out; have hnb28 := NB212_198.out; have hnc28 := NB198_212.out; have hnb29 := NB212_199.out; have hnc29 := NB199_212.out; obtain ⟨hcz30_0, hcz30_1, hfz30_0, hfz30_1⟩ := cz2_ BK212; obtain ⟨Ao31, co31, eo31⟩ := Kd.R_slice HO210.out; subst eo31; have hnb32 := NB199_198.out; have hnc32 := NB198_199.out; obtain ⟨hcz33_0, hcz33_1, hfz33_0, hfz33_1⟩ := cz2_ BK199))
     refine bodyPost_ret (results_cell_row rfl _ _ gb199 24 #[.int .i64 t207, .slice Ao31 t208.length co31] (0, 0) _ rfl (bk2_ BK199.out) Try.underlying24 rfl (by kernel_rfl)) rfl ?_
     exact ⟨_, by first | rfl | (simp [errW_none, errW_some] <;> rfl) | (simp [*, errW_none, errW_some] <;> rfl), by (with_reducible repeat (first | apply Kd.R_alloc | apply Kd.R_drewN | apply Kd.R_drew)); exact Kd.R_mono (Kd.R_far (p := ⟨gb199, 1, none⟩) (Kd.R_far (p := ⟨gb199, 0, none⟩) (Kd.R_far (p := ⟨gb212, 1, none⟩) (Kd.R_far (p := ⟨gb212, 0, none⟩) (Kd.R_types (Kd.R_types HO210.out BK212.out (by decide)) BK199.out (by decide)) (fun _ hk => hk.1.2) (.int .i64 t207)) (fun _ hk => hk.1.2) (.slice Ao31 t208.length co31)) (fun _ hk => hk.2) (.int .i64 t207)) (fun _ hk => hk.2) (.slice Ao31 t208.length co31)) (fun _ hk => trivial), HB_⟩
   rw [if_pos c12] at H
   have c12b0 : decide (x16_1 < (t200.length : Int)) = true := decide_eq_true c12
   (try simp only [hl7_1] at c12b0)
   clear c12
   replace H := yes_ H
   obtain ⟨c13, H⟩ := H
   have c13b0 : decide (0 ≤ x16_1) = true := decide_eq_true c13
   clear c13
   replace H := yes_ H
   obtain ⟨c14, H⟩ := H
   have c14b0 : decide (x16_1 < (x7_1.length : Int)) = true := decide_eq_true c14
   (try simp only [hl7_1] at c14b0)
   clear c14
   replace H := yes_ H
   obtain ⟨c15, H⟩ := H
   have c15b0 : decide (x16_1 < (l1_1.length : Int)) = true := decide_eq_true c15
   (try simp only [hl7_1] at c15b0)
   clear c15
   replace H := Option.bind_eq_some_iff.mp H
   obtain ⟨t205, A160, H⟩ := H
   replace H : (zone_mixed_v1.l0 k1 (x7_1.set (x16_1 : Int).toNat t205) (t200.length : Int) (wrap64 (x16_1 + 1)) a0_0 l0_1 a1_0 l1_1) = some (r1, r2) := H
   have A16 := Aside0.mk A160
   clear A160
   obtain ⟨y206, hy206⟩ : ∃ y_ : List Int, y_ = (x7_1.set (x16_1 : Int).toNat t205) := ⟨_, rfl⟩
   replace H : (zone_mixed_v1.l0 k1 y206 (t200.length : Int) (wrap64 (x16_1 + 1)) a0_0 l0_1 a1_0 l1_1) = some (r1, r2) := by first | (rw [hy206]; with_reducible exact H) | (have H2_ := (Option.bind_some _ _).symm.trans H; rw [hy206]; with_reducible exact H2_) | (have H2_ := (Option.bind_some _ _).symm.trans H; with_reducible exact H2_) | with_reducible exact H | (rw [hy206]; exact H) | exact H
   have Ny206 := Aside0.mk hy206
   clear hy206
   have H' := Aside0.mk H
   clear H
   try go_wp2
   have n_ := a_ (Aside0.mk (Kd.R_drew HO_7.out)) (a_ (Aside0.mk (blk_drew BK197.out)) (a_ (Aside0.mk (blk_drew BK198.out)) (a_ (Aside0.mk (blk_drew BK199.out)) (Aside0.mk (below_drew1 HB.out)))))
   clear HO_7 BK197 BK198 BK199 HB
   obtain ⟨HO_7, BK197, BK198, BK199, HB⟩ := n_
   have p203 : 0 ≤ (x16_1 : Int) := of_decide_eq_true (by first | (with_reducible assumption) | assumption)
   have q203 : x16_1 < (x7_1.length : Int) := of_decide_eq_true (by first | (with_reducible assumption) | assumption)
   obtain ⟨ad203, e203, hx203_0⟩ := Kd.at_int (Kd.R_reads' HO_7.out).2.2 x16_1 p203 q203
   cases e203
   replace p203 := eq_true p203
   replace q203 := eq_true q203
   have p204 : 0 ≤ (x16_1 : Int) := of_decide_eq_true (by first | (with_reducible assumption) | assumption)
   have q204 : x16_1 < (l1_1.length : Int) := of_decide_eq_true (by first | (with_reducible assumption) | assumption)
   obtain ⟨ad204, e204, hx204_0⟩ := Kd.at_int HR1_1.out x16_1 p204 q204
   have hw204_0 := hx204_0
   cases e204
   first | (replace hx204_0 := (HB.out.cell (World.block_lt_of_cell? w _ hx204_0)).trans hx204_0) | skip
   replace p204 := eq_true p204
   replace q204 := eq_true q204
   refine start_ (n := 15) (S := fun w' => w'.cell? ⟨gb198, 0, none⟩ = some (.int .i64 a1_0) ∧ w'.cell? ⟨gb198, 1, none⟩ = some (.slice (some ad204) l1_1.length c1_1) ∧ w'.cell? (ad203.add (x16_1).toNat) = some (.int .i64 (rd x7_1 x16_1)) ∧ w'.cell? (ad204.add (x16_1).toNat) = some (.int .i64 (rd l1_1 x16_1))) (ds := [14]) #[false, false, false, false, false, false, false, false, false, false, false, false, false, false, false] (by kernel_rfl) rfl rfl ⟨(blk_cell BK198.out 0).trans rfl, (blk_cell BK198.out 1).trans rfl, hx203_0, ((HB.out.cell (World.block_lt_of_cell? w _ hw204_0)).trans hw204_0)⟩ (fun hHeld => ?_); refine with_tabW zone_mixed_v1.tab5 zone_mixed_v1.bits5 (fun HT_ HW_ => ?_)
   generalize wr.drew = w18 at HO_7 BK197 BK198 BK199 HB hx203_0 hx204_0 hHeld ⊢
   refine pu_ 0 (some 19) ?_
   refine pu_ 1 (some 20) ?_
   refine pu_ 2 (some 21) ?_
   refine pu_ 3 (some 22) ?_
   refine pu_ 4 (some 23) ?_
   refine pu_ 5 (some 24) ?_
   refine pu_ 7 (some 26) ?_
   refine pu_ 9 (some 28) ?_
   refine take_ (i := 6) (N := some 25) (v := ?_) (a' := ?_) #[true, true, true, true, true, true, true, true, false, true, false, false, false, false, false] rfl rfl (take_ofW HT_.out HW_.out (by kernel_rfl)) (fun _ _ _ h => h) (Or.inl ⟨by rfl, ?_⟩) hHeld ?_ ?_
   rotate_left
   · rintro w' ⟨s0, s1, s2, s3⟩
     go_simp
     with_reducible rfl
   rotate_left
   · exact AP_
   refine take_ (i := 8) (N := some 27) (v := ?_) (a' := ?_) #[true, true, true, true, true, true, true, true, true, true, false, false, false, false, false] rfl rfl (take_ofW HT_.out HW_.out (by kernel_rfl)) (fun _ _ _ h => h) (Or.inl ⟨by rfl, ?_⟩) hHeld ?_ ?_
   rotate_left
   · rintro w' ⟨s0, s1, s2, s3⟩
     go_simp
     with_reducible rfl
   rotate_left
   · exact AP_
   refine pu_ 10 (some 29) ?_
   refine take_ (i := 11) (N := some 30) (v := ?_) (a' := ?_) #[true, true, true, true, true, true, true, true, true, true, true, true, false, false, false] rfl rfl (take_ofW HT_.out HW_.out (by kernel_rfl)) (fun _ _ _ h => h) (Or.inl ⟨by rfl, ?_⟩) hHeld ?_ ?_
   rotate_left
   · rintro w' ⟨s0, s1, s2, s3⟩
     go_simp
     with_reducible rfl
   rotate_left
   · exact AP_
   refine on_ 12 (some 31) (fun K hK => ?_)
   refine goesV_ #[] #[.int .i64 (rd x7_1 x16_1), .int .i64 (rd l1_1 x16_1)] (enters_ Try.func78 (by kernel_rfl) rfl _ _) (by rfl) rfl rfl (by rfl) MP_ ?_
   rw [show (#[.int .i64 (rd x7_1 x16_1), .int .i64 (rd l1_1 x16_1)] : Array Value) ++ #[] = #[.int .i64 (rd x7_1 x16_1), .int .i64 (rd l1_1 x16_1)] from rfl]
   with_reducible refine (zone_Join_1.calls (rd x7_1 x16_1) (rd l1_1 x16_1) t205 _ A16.out).mono ?_
   rintro e w19 ⟨rfl, hb⟩
   have HS2_ := (hb.cell (World.block_lt_of_cell? _ _ (hHeld.2.2.1))).trans (hHeld.2.2.1)
   refine ⟨_, rfl, ?_⟩
   have n_ := a_ (rb_ HO_7 hb) (a_ (bb_ BK197 hb) (a_ (bb_ BK198 hb) (a_ (bb_ BK199 hb) (bs_ HB hb))))
   clear HO_7 BK197 BK198 BK199 HB
   obtain ⟨HO_7, BK197, BK198, BK199, HB⟩ := n_
   (try clear hb)
   (try clear hb2)
   (try clear hk)
   (try clear hi)
   have p17 : 0 ≤ (x16_1 : Int) := of_decide_eq_true (by first | (with_reducible assumption) | assumption)
   have q17 : (x16_1 : Int) < ((x7_1.length : Int) : Int) := of_decide_eq_true (by first | (with_reducible assumption) | assumption)
   obtain ⟨go17, co17, eo17, gb17, gl17, cl17, HG17⟩ := Kd.R_form HO_7.out (by omega)
   (first | cases eo17 | (injection eo17 with ea_ en_ ec_; (first | subst ea_ | (injection ea_ with ea_; subst ea_)); subst ec_; clear en_))
   have GB17 := Aside0.mk gb17
   have GG17 := Aside0.mk HG17
   clear gb17 gl17 HG17
   (first | simp only [add_plain] at hx203_0 | skip)
   obtain ⟨hx17_0, hf17_0⟩ := Kd.R_celln 0 HO_7.out (x16_1 : Int) p17 q17
   replace p17 := eq_true p17
   replace q17 := eq_true q17
   have HP20 := Kd.R_putn HO_7.out (x16_1 : Int) t205
   rw [← Ny206.out] at HP20
   have HQ20 := Aside0.mk HP20
   clear HP20
   refine hK.out _ _ ⟨(blk_cell BK198.out 0).trans rfl, (blk_cell BK198.out 1).trans rfl, HS2_, ((HB.out.cell (World.block_lt_of_cell? w _ hw204_0)).trans hw204_0)⟩ (fun hHeld => ?_)
   clear hK K
   refine nm_ ?_
   refine pu_ 13 (some 32) ?_
   refine last_ (i := 14) (N := none) #[true, true, true, true, true, true, true, true, true, true, true, true, true, true, true] rfl rfl (one_of HT_.out (by kernel_rfl)) (by decide) (fun K hK => ?_)
   refine skip_ (w1 := ?_) (by rfl) rfl ?_ ?_
   rotate_left
   · go_simp
     rfl
   refine hK.out _ _ ?_
   clear hK K
   refine done_ (done_of HT_.out (by kernel_rfl)) ?_
   try go_wp2
   (try simp only [← hl7_1])
   go_roundg k1
   case measure => have := HK1.out; omega
   case rel => exact ⟨(y206), (wrap64 (x16_1 + 1)), (by first | rfl | (simp; done) | (simp [*]; done)), H', ⟨by have := HK1.out; omega⟩, ⟨by (try simp only [hl7_1]); (with_reducible repeat (first | apply Kd.R_alloc | apply Kd.R_drewN | apply Kd.R_drew)); exact HQ20.out⟩, ⟨by (try simp only [hl7_1]); (with_reducible repeat (first | refine blk_drewN ?_ _ | refine blk_drew ?_ | refine blk_alloc ?_ _)); refine blk_far ?_ (by have h_ := Kd.R_ne HO_7.out BK197.out (by decide); intro e_; exact h_ (by rw [e_]; rfl)) _; (with_reducible repeat (first | refine blk_drewN ?_ _ | refine blk_drew ?_ | refine blk_alloc ?_ _)); exact BK197.out⟩, ⟨by (try simp only [hl7_1]); (with_reducible repeat (first | refine blk_drewN ?_ _ | refine blk_drew ?_ | refine blk_alloc ?_ _)); refine blk_far ?_ (by have h_ := Kd.R_ne HO_7.out BK198.out (by decide); intro e_; exact h_ (by rw [e_]; rfl)) _; (with_reducible repeat (first | refine blk_drewN ?_ _ | refine blk_drew ?_ | refine blk_alloc ?_ _)); exact BK198.out⟩, ⟨by (try simp only [hl7_1]); (with_reducible repeat (first | refine blk_drewN ?_ _ | refine blk_drew ?_ | refine blk_alloc ?_ _)); refine blk_far ?_ (by have h_ := Kd.R_ne HO_7.out BK199.out (by decide); intro e_; exact h_ (by rw [e_]; rfl)) _; (with_reducible repeat (first | refine blk_drewN ?_ _ | refine blk_drew ?_ | refine blk_alloc ?_ _)); exact BK199.out⟩, ⟨by repeat (first | (with_reducible first | exact HB.out | apply below_alloc | apply pw_below_drewN | apply below_drew1 | refine below_set ?_ GB17.out | refine below_set ?_ GE197.out | refine below_set ?_ GE198.out | refine below_set ?_ GE199.out) | exact HB.out)⟩⟩
def zone_both_v1.j0 : Nat → Bool → Bool → Int → List Int → Int → List Int → Option (Int × List Int × Int)
 | 0, _, _, _, _, _, _ => none
 | k + 1, x2, x19, x214000, x214001, x215000, x215001 => if x19 = true then ((zone_mixed_v1.f k x214000 x214001 x215000 x215001).bind fun bt217 => (some (bt217.1, bt217.2, 0))) else (if x2 = true then (if (x214001.length : Int) = 0 then ((slices_Clone_int_int.f x215001).bind fun t221 => (some (x215000, t221, 0))) else ((slices_Clone_int_int.f x214001).bind fun t224 => (some (x214000, t224, 0)))) else ((zone_empty.f x214000 x214001).bind fun bt227 => (some (bt227.1, bt227.2, 0))))
def zone_both_v1.f (k : Nat) (a0_0 : Int) (l0_1 : List Int) (a1_0 : Int) (l1_1 : List Int) (a2 : Bool) : Option (Int × List Int × Int) := (zone_two.f k a0_0 l0_1 a1_0 l1_1).bind fun t216 => (if t216 = 0 then (if (l0_1.length : Int) > 0 then (zone_both_v1.j0 k a2 (decide ((l1_1.length : Int) > 0)) a0_0 l0_1 a1_0 l1_1) else (zone_both_v1.j0 k a2 false a0_0 l0_1 a1_0 l1_1)) else (some (0, ([] : List Int), t216)))
def zone_both_v1.T10 : Bool × List (List Nat × List Nat) := (true, [([], []), ([0], [0]), ([], []), ([2], [2]), ([3], [3]), ([1, 4], [1, 4]), ([5, 4, 0, 1, 2, 3, 4, 5], [5]), ([6, 0, 1, 2, 3, 4, 5, 6], [])])
def zone_both_v1.B10 : List Nat := [0, 1, 0, 4, 12, 31, 63, 127]
theorem zone_both_v1.tab10 : rtab .any (opsOf Try.f77 10) = zone_both_v1.T10 := by kernel_rfl
theorem zone_both_v1.bits10 : waitsOk zone_both_v1.T10.2 zone_both_v1.B10 = true := by kernel_rfl
set_option maxHeartbeats 8000000 in
set_option maxRecDepth 100000 in
theorem zone_both_v1.calls (k : Nat) (a0_0 : Int) (A0_1 : Option Addr) (c0_1 : Nat) (l0_1 : List Int) (a1_0 : Int) (A1_1 : Option Addr) (c1_1 : Nat) (l1_1 : List Int) (a2 : Bool) (r1 : Int) (r2 : List Int) (r3 : Int) (w : World) (hr0_1 : Kd.C (Kd.int .i64) w A0_1 l0_1.length l0_1) (hc0_1 : l0_1.length ≤ c0_1) (hr1_1 : Kd.C (Kd.int .i64) w A1_1 l1_1.length l1_1) (hc1_1 : l1_1.length ≤ c1_1) (h : zone_both_v1.f k a0_0 l0_1 a1_0 l1_1 a2 = some (r1, r2, r3)) :
   Calls Try.prog 77 #[.agg #[.int .i64 a0_0, .slice A0_1 l0_1.length c0_1], .agg #[.int .i64 a1_0, .slice A1_1 l1_1.length c1_1], .bool a2, .func (.func 78) #[] #[]] w fun e w' => ∃ v1_ : Value, e = .returned (.tuple #[.agg #[.int .i64 r1, v1_], .int .i64 r3]) ∧ Kd.R (Kd.int .i64) 3 w' w.heap.size (fun _ => True) v1_ r2 ∧ Below w.heap.size w w' := by
 have hu24 := Try.underlying24
 have HR0_1 := Aside0.mk hr0_1
 have HC0_1 := Aside0.mk hc0_1
 clear hr0_1 hc0_1
 have HR1_1 := Aside0.mk hr1_1
 have HC1_1 := Aside0.mk hc1_1
 clear hr1_1 hc1_1
 have HB := Aside0.mk (Below.refl w.heap.size w)
 have H : ((zone_two.f k a0_0 l0_1 a1_0 l1_1).bind fun t216 => (if t216 = 0 then (if (l0_1.length : Int) > 0 then (zone_both_v1.j0 k a2 (decide ((l1_1.length : Int) > 0)) a0_0 l0_1 a1_0 l1_1) else (zone_both_v1.j0 k a2 false a0_0 l0_1 a1_0 l1_1)) else (some (0, ([] : List Int), t216)))) = some (r1, r2, r3) := h
 clear h
 replace H := Option.bind_eq_some_iff.mp H
 obtain ⟨t216, A40, H⟩ := H
 replace H : (if t216 = 0 then (if (l0_1.length : Int) > 0 then (zone_both_v1.j0 k a2 (decide ((l1_1.length : Int) > 0)) a0_0 l0_1 a1_0 l1_1) else (zone_both_v1.j0 k a2 false a0_0 l0_1 a1_0 l1_1)) else (some (0, ([] : List Int), t216))) = some (r1, r2, r3) := H
 have A4 := Aside0.mk A40
 clear A40
 by_cases c5 : t216 = 0
 rotate_left
 · rw [if_neg c5] at H
   have c5b0 : (t216 == 0) = false := beq_eq_false_iff_ne.mpr c5
   have c5b1 : (t216 != 0) = true := bne_iff_ne.mpr c5
   simp only [Option.some.injEq, Prod.mk.injEq] at H
   obtain ⟨rfl, rfl, rfl⟩ := H
   go_enter Try.func77, Try.ntmps77
   go_wp2_with (first | ((with_reducible refine gate_dst (N := 4) rfl ?_); (try (refine gate_guard (by rfl) ?_; dsimp only)); refine bx_ (N := 4) (cs := #[.int .i64 a0_0, .slice A0_1 l0_1.length c0_1]) (t := 24) ?_; intro gb213 hg w66 hbox hb; have n_ := a_ (bs_ HB hb) (a_ (Aside0.mk hbox) (a_ (gs_ HB hg) (gs_ HB hg))); clear HB; obtain ⟨HB, BK213, GW213, GE213⟩ := n_; clear hb hbox hg) | ((with_reducible refine gate_dst (N := 5) rfl ?_); (try (refine gate_guard (by rfl) ?_; dsimp only)); refine bx_ (N := 5) (cs := #[.int .i64 a1_0, .slice A1_1 l1_1.length c1_1]) (t := 24) ?_; intro gb214 hg w67 hbox hb; have n_ := a_ (bb_ BK213 hb) (a_ (bs_ HB hb) (a_ (Aside0.mk hbox) (a_ (gs_ HB hg) (a_ (gs_ HB hg) (a_ (nl_ BK213 hg) (ng_ BK213 hg)))))); clear BK213 HB; obtain ⟨BK213, HB, BK214, GW214, GE214, NB213_214, NB214_213⟩ := n_; clear hb hbox hg) | ((with_reducible refine gate_dst (N := 8) rfl ?_); (try (refine gate_guard (by rfl) ?_; dsimp only)); refine bx_ (N := 8) (cs := #[.int .i64 0, .slice none 0 0]) (t := 24) ?_; intro gb215 hg w68 hbox hb; have n_ := a_ (bb_ BK213 hb) (a_ (bb_ BK214 hb) (a_ (bs_ HB hb) (a_ (Aside0.mk hbox) (a_ (gs_ HB hg) (a_ (gs_ HB hg) (a_ (nl_ BK213 hg) (a_ (ng_ BK213 hg) (a_ (nl_ BK214 hg) (ng_ BK214 hg))))))))); clear BK213 BK214 HB; obtain ⟨BK213, BK214, HB, BK215, GW215, GE215, NB213_215, NB215_213, NB214_215, NB215_214⟩ := n_; clear hb hbox hg; have hnb69 := NB213_214.out; have hnc69 := NB214_213.out; have hnb70 := NB213_215.out; have hnc70 := NB215_213.out; obtain ⟨hcz71_0, hcz71_1, hfz71_0, hfz71_1⟩ := cz2_ BK213; have hnb72 := NB214_215.out; have hnc72 := NB215_214.out; obtain ⟨hcz73_0, hcz73_1, hfz73_0, hfz73_1⟩ := cz2_ BK214) | ((with_reducible refine gate_callee (f := 79) rfl ?_); refine goesL_ (some 13) rfl rfl Try.func79 (by kernel_rfl) rfl #[.agg #[.int .i64 a0_0, .slice A0_1 l0_1.length c0_1], .agg #[.int .i64 a1_0, .slice A1_1 l1_1.length c1_1]] rfl MP_ ?_; (with_reducible refine (zone_two.calls k a0_0 _ _ l0_1 a1_0 _ _ l1_1 t216 _ ?side1 ?side2 ?side3 ?side4 A4.out).mono ?_); (case side1 => exact sd_ (Kd.C_below HR0_1.out HB.out)); (case side2 => exact HC0_1.out); (case side3 => exact sd_ (Kd.C_below HR1_1.out HB.out)); (case side4 => exact HC1_1.out); rintro e w74 ⟨rfl, hb⟩; refine ⟨_, rfl, ?_⟩; have n_ := a_ (bb_ BK213 hb) (a_ (bb_ BK214 hb) (a_ (bb_ BK215 hb) (bs_ HB hb))); clear BK213 BK214 BK215 HB; obtain ⟨BK213, BK214, BK215, HB⟩ := n_; (try clear hb); (try clear hb2); (try clear hk); (try clear hi); obtain ⟨hcz75_0, hcz75_1, hfz75_0, hfz75_1⟩ := cz2_ BK215))
   refine bodyPost_ret (results_ct rfl _ _ gb215 24 #[.int .i64 0, .slice none 0 0] (0, 0) _ rfl (bk2_ BK215.out) Try.underlying24 rfl (by kernel_rfl)) rfl ?_
   exact ⟨_, by first | rfl | (simp [errW_none, errW_some] <;> rfl) | (simp [*, errW_none, errW_some] <;> rfl), by first | exact Kd.R_nil _ _ _ _ _ | exact Kd.N_nil _ _ _ _ _ | exact Kd.V_nil _ _ _ _ _ | exact Kd.Q_nil _ _ _ _ _ | exact Kd.S_nil _ _ _ _ _, HB_⟩
 rw [if_pos c5] at H
 have c5b0 : (t216 == 0) = true := beq_iff_eq.mpr c5
 have c5b1 : (t216 != 0) = false := bne_eq_false_iff_eq.mpr c5
 clear c5
 have HC6 := Aside0.mk H
 clear H
 go_enter Try.func77, Try.ntmps77
 go_upto_region 4 with (first | ((with_reducible refine gate_dst (N := 4) rfl ?_); (try (refine gate_guard (by rfl) ?_; dsimp only)); refine bx_ (N := 4) (cs := #[.int .i64 a0_0, .slice A0_1 l0_1.length c0_1]) (t := 24) ?_; intro gb213 hg w7 hbox hb; have n_ := a_ (bs_ HB hb) (a_ (Aside0.mk hbox) (a_ (gs_ HB hg) (gs_ HB hg))); clear HB; obtain ⟨HB, BK213, GW213, GE213⟩ := n_; clear hb hbox hg) | ((with_reducible refine gate_dst (N := 5) rfl ?_); (try (refine gate_guard (by rfl) ?_; dsimp only)); refine bx_ (N := 5) (cs := #[.int .i64 a1_0, .slice A1_1 l1_1.length c1_1]) (t := 24) ?_; intro gb214 hg w8 hbox hb; have n_ := a_ (bb_ BK213 hb) (a_ (bs_ HB hb) (a_ (Aside0.mk hbox) (a_ (gs_ HB hg) (a_ (gs_ HB hg) (a_ (nl_ BK213 hg) (ng_ BK213 hg)))))); clear BK213 HB; obtain ⟨BK213, HB, BK214, GW214, GE214, NB213_214, NB214_213⟩ := n_; clear hb hbox hg) | ((with_reducible refine gate_dst (N := 8) rfl ?_); (try (refine gate_guard (by rfl) ?_; dsimp only)); refine bx_ (N := 8) (cs := #[.int .i64 0, .slice none 0 0]) (t := 24) ?_; intro gb215 hg w9 hbox hb; have n_ := a_ (bb_ BK213 hb) (a_ (bb_ BK214 hb) (a_ (bs_ HB hb) (a_ (Aside0.mk hbox) (a_ (gs_ HB hg) (a_ (gs_ HB hg) (a_ (nl_ BK213 hg) (a_ (ng_ BK213 hg) (a_ (nl_ BK214 hg) (ng_ BK214 hg))))))))); clear BK213 BK214 HB; obtain ⟨BK213, BK214, HB, BK215, GW215, GE215, NB213_215, NB215_213, NB214_215, NB215_214⟩ := n_; clear hb hbox hg; have hnb10 := NB213_214.out; have hnc10 := NB214_213.out; have hnb11 := NB213_215.out; have hnc11 := NB215_213.out; obtain ⟨hcz12_0, hcz12_1, hfz12_0, hfz12_1⟩ := cz2_ BK213; have hnb13 := NB214_215.out; have hnc13 := NB215_214.out; obtain ⟨hcz14_0, hcz14_1, hfz14_0, hfz14_1⟩ := cz2_ BK214) | ((with_reducible refine gate_callee (f := 79) rfl ?_); refine goesL_ (some 13) rfl rfl Try.func79 (by kernel_rfl) rfl #[.agg #[.int .i64 a0_0, .slice A0_1 l0_1.length c0_1], .agg #[.int .i64 a1_0, .slice A1_1 l1_1.length c1_1]] rfl MP_ ?_; (with_reducible refine (zone_two.calls k a0_0 _ _ l0_1 a1_0 _ _ l1_1 t216 _ ?side1 ?side2 ?side3 ?side4 A4.out).mono ?_); (case side1 => exact sd_ (Kd.C_below HR0_1.out HB.out)); (case side2 => exact HC0_1.out); (case side3 => exact sd_ (Kd.C_below HR1_1.out HB.out)); (case side4 => exact HC1_1.out); rintro e w15 ⟨rfl, hb⟩; refine ⟨_, rfl, ?_⟩; have n_ := a_ (bb_ BK213 hb) (a_ (bb_ BK214 hb) (a_ (bb_ BK215 hb) (bs_ HB hb))); clear BK213 BK214 BK215 HB; obtain ⟨BK213, BK214, BK215, HB⟩ := n_; (try clear hb); (try clear hb2); (try clear hk); (try clear hi)))
 (try simp only [Act.put, List.setIfInBounds_toArray, List.set_cons_zero, List.set_cons_succ])
 go_cut [19] (fun v19 wc => ∃ (kq : Nat) (x19_5 : Bool), v19 = .bool x19_5 ∧ Aside0 (zone_both_v1.j0 kq a2 x19_5 a0_0 l0_1 a1_0 l1_1 = some (r1, r2, r3)) ∧ Aside0 (kq ≤ k) ∧ Aside0 (wc.heap[gb213]? = some (.cells #[.int .i64 a0_0, (.slice A0_1 l0_1.length c0_1)] 24 (0, 0))) ∧ Aside0 (wc.heap[gb214]? = some (.cells #[.int .i64 a1_0, (.slice A1_1 l1_1.length c1_1)] 24 (0, 0))) ∧ Aside0 (wc.heap[gb215]? = some (.cells #[.int .i64 0, (.slice none 0 0)] 24 (0, 0))) ∧ Aside0 (Below w.heap.size w wc))
 case first =>
   have H := HC6.out
   clear HC6
   by_cases c16 : (l0_1.length : Int) > 0
   rotate_left
   · rw [if_neg c16] at H
     have c16b0 : decide (0 < (l0_1.length : Int)) = false := decide_eq_false c16
     have c16b1 : decide (0 < l0_1.length) = false := decide_eq_false (by omega)
     clear c16
     (first | rw [c16b0] | (simp only [i64_w, i32_w]; rw [c16b0]) | skip)
     have H' := Aside0.mk H
     clear H
     have hnb22 := NB213_214.out
     have hnc22 := NB214_213.out
     have hnb23 := NB213_215.out
     have hnc23 := NB215_213.out
     obtain ⟨hcz24_0, hcz24_1, hfz24_0, hfz24_1⟩ := cz2_ BK213
     go_wp2
     go_meet
     case rel => exact ⟨_, (false), (by first | rfl | (simp; done) | (simp [*]; done)), H', ⟨by first | omega | exact Nat.le_refl _⟩, ⟨by (with_reducible repeat (first | refine blk_drewN ?_ _ | refine blk_drew ?_ | refine blk_alloc ?_ _)); exact BK213.out⟩, ⟨by (with_reducible repeat (first | refine blk_drewN ?_ _ | refine blk_drew ?_ | refine blk_alloc ?_ _)); exact BK214.out⟩, ⟨by (with_reducible repeat (first | refine blk_drewN ?_ _ | refine blk_drew ?_ | refine blk_alloc ?_ _)); exact BK215.out⟩, ⟨HB_⟩⟩
   rw [if_pos c16] at H
   have c16b0 : decide (0 < (l0_1.length : Int)) = true := decide_eq_true c16
   have c16b1 : decide (0 < l0_1.length) = true := decide_eq_true (by omega)
   clear c16
   (first | rw [c16b0] | (simp only [i64_w, i32_w]; rw [c16b0]) | skip)
   have H' := Aside0.mk H
   clear H
   have hnb17 := NB213_214.out
   have hnc17 := NB214_213.out
   have hnb18 := NB213_215.out
   have hnc18 := NB215_213.out
   obtain ⟨hcz19_0, hcz19_1, hfz19_0, hfz19_1⟩ := cz2_ BK213
   have hnb20 := NB214_215.out
   have hnc20 := NB215_214.out
   obtain ⟨hcz21_0, hcz21_1, hfz21_0, hfz21_1⟩ := cz2_ BK214
   go_wp2
   go_meet
   case rel => exact ⟨_, (decide ((l1_1.length : Int) > 0)), (by first | rfl | (simp; done) | (simp [*]; done)), H', ⟨by first | omega | exact Nat.le_refl _⟩, ⟨by (with_reducible repeat (first | refine blk_drewN ?_ _ | refine blk_drew ?_ | refine blk_alloc ?_ _)); exact BK213.out⟩, ⟨by (with_reducible repeat (first | refine blk_drewN ?_ _ | refine blk_drew ?_ | refine blk_alloc ?_ _)); exact BK214.out⟩, ⟨by (with_reducible repeat (first | refine blk_drewN ?_ _ | refine blk_drew ?_ | refine blk_alloc ?_ _)); exact BK215.out⟩, ⟨HB_⟩⟩
 case rest =>
   clear HC6
   try clear c1
   try clear c2
   try clear p2
   try clear c5
   try clear c5b0
   try clear c5b1
   try clear c7
   try clear c10
   try clear c11
   try clear c13
   try clear c16
   try clear c16b0
   try clear c16b1
   try clear c17
   try clear c18
   try clear c20
   try clear c22
   try clear c23
   try clear hcz12_0
   try clear hcz12_1
   try clear hcz14_0
   try clear hcz14_1
   try clear hcz19_0
   try clear hcz19_1
   try clear hcz21_0
   try clear hcz21_1
   try clear hcz24_0
   try clear hcz24_1
   try clear hfz12_0
   try clear hfz12_1
   try clear hfz14_0
   try clear hfz14_1
   try clear hfz19_0
   try clear hfz19_1
   try clear hfz21_0
   try clear hfz21_1
   try clear hfz24_0
   try clear hfz24_1
   obtain ⟨kq, x19_5, rfl, HA, HJ5, BK213, BK214, BK215, HB⟩ := hcut
   cases kq with
   | zero => exact absurd HA.out (by simp [zone_both_v1.j0])
   | succ kj5 =>
     have H := HA.out
     clear HA
     simp only [zone_both_v1.j0] at H
     by_cases c25 : x19_5 = true
     · subst c25
       have H1 : ((zone_mixed_v1.f kj5 a0_0 l0_1 a1_0 l1_1).bind fun bt217 => (some (bt217.1, bt217.2, 0))) = some (r1, r2, r3) := by rw [if_pos rfl] at H; exact H
       clear H
       have H := H1
       clear H1
       replace H := Option.bind_eq_some_iff.mp H
       obtain ⟨⟨t217, t218⟩, A260, H⟩ := H
       replace H : (some (t217, t218, 0)) = some (r1, r2, r3) := H
       have A26 := Aside0.mk A260
       clear A260
       simp only [Option.some.injEq, Prod.mk.injEq] at H
       obtain ⟨rfl, rfl, rfl⟩ := H
       have hnb27 := NB213_214.out
       have hnc27 := NB214_213.out
       have hnb28 := NB213_215.out
       have hnc28 := NB215_213.out
       obtain ⟨hcz29_0, hcz29_1, hfz29_0, hfz29_1⟩ := cz2_ BK213
       have hnb30 := NB214_215.out
       have hnc30 := NB215_214.out
       obtain ⟨hcz31_0, hcz31_1, hfz31_0, hfz31_1⟩ := cz2_ BK214
       go_wp2_with (first | ((with_reducible refine gate_callee (f := 102) rfl ?_); refine goesL_ (some 33) rfl rfl Try.func102 (by kernel_rfl) rfl #[.agg #[.int .i64 a0_0, .slice A0_1 l0_1.length c0_1], .agg #[.int .i64 a1_0, .slice A1_1 l1_1.length c1_1], .func (.func 78) #[] #[]] rfl MP_ ?_; (with_reducible refine (zone_mixed_v1.calls kj5 a0_0 _ _ l0_1 a1_0 _ _ l1_1 t217 t218 _ ?side1 ?side2 ?side3 ?side4 A26.out).mono ?_); (case side1 => exact sd_ (Kd.C_below HR0_1.out HB.out)); (case side2 => exact HC0_1.out); (case side3 => exact sd_ (Kd.C_below HR1_1.out HB.out)); (case side4 => exact HC1_1.out); rintro e w32 ⟨v219, rfl, ho0, hb⟩; refine ⟨_, rfl, ?_⟩; have n_ := a_ (Aside0.mk (Kd.R_lower ho0 (below_size HB_))) (a_ (bb_ BK213 hb) (a_ (bb_ BK214 hb) (a_ (bb_ BK215 hb) (bs_ HB hb)))); clear BK213 BK214 BK215 HB; obtain ⟨HO220, BK213, BK214, BK215, HB⟩ := n_; (try clear hb); (try clear hb2); (try clear hk); (try clear hi); (try clear ho0); obtain ⟨hcz33_0, hcz33_1, hfz33_0, hfz33_1⟩ := cz2_ BK215; obtain ⟨Ao34, co34, eo34⟩ := Kd.R_slice HO220.out; subst eo34))
       refine bodyPost_ret (results_ct rfl _ _ gb215 24 #[.int .i64 t217, .slice Ao34 t218.length co34] (0, 0) _ rfl (bk2_ BK215.out) Try.underlying24 rfl (by kernel_rfl)) rfl ?_
       exact ⟨_, by first | rfl | (simp [errW_none, errW_some] <;> rfl) | (simp [*, errW_none, errW_some] <;> rfl), by (with_reducible repeat (first | apply Kd.R_alloc | apply Kd.R_drewN | apply Kd.R_drew)); exact Kd.R_mono (Kd.R_far (p := ⟨gb215, 1, none⟩) (Kd.R_far (p := ⟨gb215, 0, none⟩) (Kd.R_types HO220.out BK215.out (by decide)) (fun _ hk => hk.2) (.int .i64 t217)) (fun _ hk => hk.2) (.slice Ao34 t218.length co34)) (fun _ hk => trivial), HB_⟩
     replace c25 := Bool.eq_false_iff.mpr c25
     subst c25
     have H1 : (if a2 = true then (if (l0_1.length : Int) = 0 then ((slices_Clone_int_int.f l1_1).bind fun t221 => (some (a1_0, t221, 0))) else ((slices_Clone_int_int.f l0_1).bind fun t224 => (some (a0_0, t224, 0)))) else ((zone_empty.f a0_0 l0_1).bind fun bt227 => (some (bt227.1, bt227.2, 0)))) = some (r1, r2, r3) := by rw [if_neg (show ¬ (false = true) by decide)] at H; exact H
     clear H
     have H := H1
     clear H1
     by_cases c35 : a2 = true
     rotate_left
     · replace c35 := Bool.eq_false_iff.mpr c35
       subst c35
       have H1 : ((zone_empty.f a0_0 l0_1).bind fun bt227 => (some (bt227.1, bt227.2, 0))) = some (r1, r2, r3) := by rw [if_neg (show ¬ (false = true) by decide)] at H; exact H
       clear H
       have H := H1
       clear H1
       replace H := Option.bind_eq_some_iff.mp H
       obtain ⟨⟨t227, t228⟩, A580, H⟩ := H
       replace H : (some (t227, t228, 0)) = some (r1, r2, r3) := H
       have A58 := Aside0.mk A580
       clear A580
       simp only [Option.some.injEq, Prod.mk.injEq] at H
       obtain ⟨rfl, rfl, rfl⟩ := H
       have hnb59 := NB213_214.out
       have hnc59 := NB214_213.out
       have hnb60 := NB213_215.out
       have hnc60 := NB215_213.out
       obtain ⟨hcz61_0, hcz61_1, hfz61_0, hfz61_1⟩ := cz2_ BK213
       go_wp2_with (first | ((with_reducible refine gate_callee (f := 68) rfl ?_); refine goesL_ (some 38) rfl rfl Try.func68 (by kernel_rfl) rfl #[.agg #[.int .i64 a0_0, .slice A0_1 l0_1.length c0_1]] rfl MP_ ?_; (with_reducible refine (zone_empty.calls a0_0 _ _ l0_1 t227 t228 _ ?side1 ?side2 A58.out).mono ?_); (case side1 => exact sd_ (Kd.C_below HR0_1.out HB.out)); (case side2 => exact HC0_1.out); rintro e w62 ⟨v229, rfl, ho0, hb⟩; refine ⟨_, rfl, ?_⟩; have n_ := a_ (Aside0.mk (Kd.R_lower ho0 (below_size HB_))) (a_ (bb_ BK213 hb) (a_ (bb_ BK214 hb) (a_ (bb_ BK215 hb) (bs_ HB hb)))); clear BK213 BK214 BK215 HB; obtain ⟨HO230, BK213, BK214, BK215, HB⟩ := n_; (try clear hb); (try clear hb2); (try clear hk); (try clear hi); (try clear ho0); have hnb63 := NB215_214.out; have hnc63 := NB214_215.out; obtain ⟨hcz64_0, hcz64_1, hfz64_0, hfz64_1⟩ := cz2_ BK215; obtain ⟨Ao65, co65, eo65⟩ := Kd.R_slice HO230.out; subst eo65))
       refine bodyPost_ret (results_ct rfl _ _ gb215 24 #[.int .i64 t227, .slice Ao65 t228.length co65] (0, 0) _ rfl (bk2_ BK215.out) Try.underlying24 rfl (by kernel_rfl)) rfl ?_
       exact ⟨_, by first | rfl | (simp [errW_none, errW_some] <;> rfl) | (simp [*, errW_none, errW_some] <;> rfl), by (with_reducible repeat (first | apply Kd.R_alloc | apply Kd.R_drewN | apply Kd.R_drew)); exact Kd.R_mono (Kd.R_far (p := ⟨gb215, 1, none⟩) (Kd.R_far (p := ⟨gb215, 0, none⟩) (Kd.R_types HO230.out BK215.out (by decide)) (fun _ hk => hk.2) (.int .i64 t227)) (fun _ hk => hk.2) (.slice Ao65 t228.length co65)) (fun _ hk => trivial), HB_⟩
     subst c35
     have H1 : (if (l0_1.length : Int) = 0 then ((slices_Clone_int_int.f l1_1).bind fun t221 => (some (a1_0, t221, 0))) else ((slices_Clone_int_int.f l0_1).bind fun t224 => (some (a0_0, t224, 0)))) = some (r1, r2, r3) := by rw [if_pos rfl] at H; exact H
     clear H
     have H := H1
     clear H1
     by_cases c36 : (l0_1.length : Int) = 0
     rotate_left
     · rw [if_neg c36] at H
       have c36b0 : ((l0_1.length : Int) == 0) = false := beq_eq_false_iff_ne.mpr c36
       have c36b1 : ((l0_1.length : Int) != 0) = true := bne_iff_ne.mpr c36
       have c36b2 : ¬ (l0_1 = []) := fun h_ => c36 (by rw [h_]; rfl)
       replace H := Option.bind_eq_some_iff.mp H
       obtain ⟨t224, A490, H⟩ := H
       replace H : (some (a0_0, t224, 0)) = some (r1, r2, r3) := H
       have A49 := Aside0.mk A490
       clear A490
       simp only [Option.some.injEq, Prod.mk.injEq] at H
       obtain ⟨rfl, rfl, rfl⟩ := H
       have hnb50 := NB213_214.out
       have hnc50 := NB214_213.out
       have hnb51 := NB213_215.out
       have hnc51 := NB215_213.out
       obtain ⟨hcz52_0, hcz52_1, hfz52_0, hfz52_1⟩ := cz2_ BK213
       try go_wp2
       have n_ := a_ (Aside0.mk (blk_drew BK213.out)) (a_ (Aside0.mk (blk_drew BK214.out)) (a_ (Aside0.mk (blk_drew BK215.out)) (Aside0.mk (below_drew1 HB.out))))
       clear BK213 BK214 BK215 HB
       obtain ⟨BK213, BK214, BK215, HB⟩ := n_
       refine start_ (n := 8) (S := fun w' => w'.cell? ⟨gb213, 0, none⟩ = some (.int .i64 a0_0) ∧ w'.cell? ⟨gb213, 1, none⟩ = some (.slice A0_1 l0_1.length c0_1)) (ds := []) #[false, false, false, false, false, false, false, false] (by kernel_rfl) rfl rfl ⟨(blk_cell BK213.out 0).trans rfl, (blk_cell BK213.out 1).trans rfl⟩ (fun hHeld => ?_); refine with_tabW zone_both_v1.tab10 zone_both_v1.bits10 (fun HT_ HW_ => ?_)
       generalize wc.drew = w53 at BK213 BK214 BK215 HB hHeld ⊢
       refine pu_ 0 (some 45) ?_
       refine pu_ 2 (some 47) ?_
       refine take_ (i := 1) (N := some 46) (v := ?_) (a' := ?_) #[true, true, true, false, false, false, false, false] rfl rfl (take_ofW HT_.out HW_.out (by kernel_rfl)) (fun _ _ _ h => h) (Or.inl ⟨by rfl, ?_⟩) hHeld ?_ ?_
       rotate_left
       · rintro w' ⟨s0, s1⟩
         go_simp
         with_reducible rfl
       rotate_left
       · exact AP_
       refine take_ (i := 3) (N := some 48) (v := ?_) (a' := ?_) #[true, true, true, true, false, false, false, false] rfl rfl (take_ofW HT_.out HW_.out (by kernel_rfl)) (fun _ _ _ h => h) (Or.inl ⟨by rfl, ?_⟩) hHeld ?_ ?_
       rotate_left
       · rintro w' ⟨s0, s1⟩
         go_simp
         with_reducible rfl
       rotate_left
       · exact AP_
       refine on_ 4 (some 49) (fun K hK => ?_)
       refine goes_ Try.func85 (by kernel_rfl) rfl #[.slice A0_1 l0_1.length c0_1] (by rfl) rfl rfl MP_ ?_
       with_reducible refine (slices_Clone_int_int.calls _ _ l0_1 t224 _ ?side1 ?side2 A49.out).mono ?_
       (case side1 => exact sd_ (Kd.C_below HR0_1.out HB.out))
       (case side2 => exact HC0_1.out)
       rintro e w54 ⟨v225, rfl, ho0, hb⟩
       refine ⟨_, rfl, ?_⟩
       have n_ := a_ (Aside0.mk (Kd.R_lower ho0 (below_size HB_))) (a_ (bb_ BK213 hb) (a_ (bb_ BK214 hb) (a_ (bb_ BK215 hb) (bs_ HB hb))))
       clear BK213 BK214 BK215 HB
       obtain ⟨HO226, BK213, BK214, BK215, HB⟩ := n_
       (try clear hb)
       (try clear hb2)
       (try clear hk)
       (try clear hi)
       (try clear ho0)
       obtain ⟨Ao55, co55, eo55⟩ := Kd.R_slice HO226.out
       (first | subst eo55 | (injection eo55 with f1_ f2_ f3_; have f4_ := f1_.symm; have f5_ := f3_.symm; clear f1_ f2_ f3_; subst f4_; subst f5_))
       refine hK.out _ _ ⟨(blk_cell BK213.out 0).trans rfl, (blk_cell BK213.out 1).trans rfl⟩ (fun hHeld => ?_)
       clear hK K
       refine nm_ ?_
       refine pu_ 5 (some 50) ?_
       refine on_ 6 (none) (fun K hK => ?_)
       have hs56 : w54.cell? ⟨gb215, 0, none⟩ = some (.int .i64 0) := (blk_cell BK215.out 0).trans rfl
       have hfs56 := blk_frozen BK215.out 0
       have hns56_0 := NB213_215.out
       have hns56_1 := NB214_215.out
       have hms56_0 := NB215_213.out
       have hms56_1 := NB215_214.out
       have hs57 : w54.cell? ⟨gb215, 1, none⟩ = some (.slice none 0 0) := (blk_cell BK215.out 1).trans rfl
       have hfs57 := blk_frozen BK215.out 1
       have hns57_0 := NB213_215.out
       have hns57_1 := NB214_215.out
       have hms57_0 := NB215_213.out
       have hms57_1 := NB215_214.out
       refine skip_ (w1 := ?_) (by rfl) rfl ?_ ?_
       rotate_left
       · go_simp
         rfl
       refine hK.out _ _ ⟨((cell_far (p := ⟨gb215, _, none⟩) NB213_215.out _).trans (((cell_far (p := ⟨gb215, _, none⟩) NB213_215.out _).trans (hHeld.1)))), ((cell_far (p := ⟨gb215, _, none⟩) NB213_215.out _).trans (((cell_far (p := ⟨gb215, _, none⟩) NB213_215.out _).trans (hHeld.2))))⟩ (fun hHeld => ?_)
       clear hK K
       refine pu_ 7 (some 9) ?_
       refine done_ (done_of HT_.out (by kernel_rfl)) ?_
       try go_wp2
       refine bodyPost_ret (results_ct rfl _ _ gb215 24 #[.int .i64 a0_0, .slice Ao55 t224.length co55] (0, 0) _ rfl (bk2_ BK215.out) Try.underlying24 rfl (by kernel_rfl)) rfl ?_
       exact ⟨_, by first | rfl | (simp [errW_none, errW_some] <;> rfl) | (simp [*, errW_none, errW_some] <;> rfl), by (with_reducible repeat (first | apply Kd.R_alloc | apply Kd.R_drewN | apply Kd.R_drew)); exact Kd.R_mono (Kd.R_far (p := ⟨gb215, 1, none⟩) (Kd.R_far (p := ⟨gb215, 0, none⟩) (Kd.R_types HO226.out BK215.out (by decide)) (fun _ hk => hk.2) (.int .i64 a0_0)) (fun _ hk => hk.2) (.slice Ao55 t224.length co55)) (fun _ hk => trivial), HB_⟩
     rw [if_pos c36] at H
     have c36b0 : ((l0_1.length : Int) == 0) = true := beq_iff_eq.mpr c36
     have c36b1 : ((l0_1.length : Int) != 0) = false := bne_eq_false_iff_eq.mpr c36
     clear c36
     replace H := Option.bind_eq_some_iff.mp H
     obtain ⟨t221, A370, H⟩ := H
     replace H : (some (a1_0, t221, 0)) = some (r1, r2, r3) := H
     have A37 := Aside0.mk A370
     clear A370
     simp only [Option.some.injEq, Prod.mk.injEq] at H
     obtain ⟨rfl, rfl, rfl⟩ := H
     have hnb38 := NB213_214.out
     have hnc38 := NB214_213.out
     have hnb39 := NB213_215.out
     have hnc39 := NB215_213.out
     obtain ⟨hcz40_0, hcz40_1, hfz40_0, hfz40_1⟩ := cz2_ BK213
     have hnb41 := NB214_215.out
     have hnc41 := NB215_214.out
     obtain ⟨hcz42_0, hcz42_1, hfz42_0, hfz42_1⟩ := cz2_ BK214
     try go_wp2
     have n0_ : Aside0 (((wc.setCell ⟨gb213, 0, none⟩ (.int .i64 a1_0)).setCell ⟨gb213, 1, none⟩ (.slice A1_1 l1_1.length c1_1)).heap[gb213]? = some (.cells #[.int .i64 a1_0, .slice A1_1 l1_1.length c1_1] 24 (0, 0))) := ⟨by (with_reducible repeat (first | refine blk_drewN ?_ _ | refine blk_drew ?_ | refine blk_alloc ?_ _)); refine blk_put (cs := #[.int .i64 a1_0, .slice A0_1 l0_1.length c0_1]) ?_ 1 _ rfl; (with_reducible repeat (first | refine blk_drewN ?_ _ | refine blk_drew ?_ | refine blk_alloc ?_ _)); refine blk_put (cs := #[.int .i64 a0_0, .slice A0_1 l0_1.length c0_1]) ?_ 0 _ rfl; (with_reducible repeat (first | refine blk_drewN ?_ _ | refine blk_drew ?_ | refine blk_alloc ?_ _)); exact BK213.out⟩
     have n1_ : Aside0 (((wc.setCell ⟨gb213, 0, none⟩ (.int .i64 a1_0)).setCell ⟨gb213, 1, none⟩ (.slice A1_1 l1_1.length c1_1)).heap[gb214]? = some (.cells #[.int .i64 a1_0, .slice A1_1 l1_1.length c1_1] 24 (0, 0))) := ⟨by (with_reducible repeat (first | refine blk_drewN ?_ _ | refine blk_drew ?_ | refine blk_alloc ?_ _)); refine blk_far ?_ NB214_213.out _; (with_reducible repeat (first | refine blk_drewN ?_ _ | refine blk_drew ?_ | refine blk_alloc ?_ _)); refine blk_far ?_ NB214_213.out _; (with_reducible repeat (first | refine blk_drewN ?_ _ | refine blk_drew ?_ | refine blk_alloc ?_ _)); exact BK214.out⟩
     have n2_ : Aside0 (((wc.setCell ⟨gb213, 0, none⟩ (.int .i64 a1_0)).setCell ⟨gb213, 1, none⟩ (.slice A1_1 l1_1.length c1_1)).heap[gb215]? = some (.cells #[.int .i64 0, .slice none 0 0] 24 (0, 0))) := ⟨by (with_reducible repeat (first | refine blk_drewN ?_ _ | refine blk_drew ?_ | refine blk_alloc ?_ _)); refine blk_far ?_ NB215_213.out _; (with_reducible repeat (first | refine blk_drewN ?_ _ | refine blk_drew ?_ | refine blk_alloc ?_ _)); refine blk_far ?_ NB215_213.out _; (with_reducible repeat (first | refine blk_drewN ?_ _ | refine blk_drew ?_ | refine blk_alloc ?_ _)); exact BK215.out⟩
     have n3_ : Aside0 (Below w.heap.size w ((wc.setCell ⟨gb213, 0, none⟩ (.int .i64 a1_0)).setCell ⟨gb213, 1, none⟩ (.slice A1_1 l1_1.length c1_1))) := ⟨HB_⟩
     (try clear BK213)
     (try clear BK214)
     (try clear BK215)
     (try clear HB)
     generalize ((wc.setCell ⟨gb213, 0, none⟩ (.int .i64 a1_0)).setCell ⟨gb213, 1, none⟩ (.slice A1_1 l1_1.length c1_1)) = w43 at n0_ n1_ n2_ n3_ ⊢
     have BK213 := n0_
     have BK214 := n1_
     have BK215 := n2_
     have HB := n3_
     clear n0_ n1_ n2_ n3_
     first | (obtain ⟨w43, hq_⟩ : ∃ x, x = w43.drewN nd := ⟨_, rfl⟩; rw [← hq_]; have q0_ := Aside0.mk (blk_drewN BK213.out nd); rw [← hq_] at q0_; have q1_ := Aside0.mk (blk_drewN BK214.out nd); rw [← hq_] at q1_; have q2_ := Aside0.mk (blk_drewN BK215.out nd); rw [← hq_] at q2_; have q3_ := Aside0.mk (pw_below_drewN HB.out nd); rw [← hq_] at q3_; clear BK213; clear BK214; clear BK215; clear HB; have BK213 := q0_; have BK214 := q1_; have BK215 := q2_; have HB := q3_; clear hq_ q0_ q1_ q2_ q3_) | skip
     have n_ := a_ (Aside0.mk (blk_drew BK213.out)) (a_ (Aside0.mk (blk_drew BK214.out)) (a_ (Aside0.mk (blk_drew BK215.out)) (Aside0.mk (below_drew1 HB.out))))
     clear BK213 BK214 BK215 HB
     obtain ⟨BK213, BK214, BK215, HB⟩ := n_
     refine start_ (n := 8) (S := fun w' => w'.cell? ⟨gb213, 0, none⟩ = some (.int .i64 a1_0) ∧ w'.cell? ⟨gb213, 1, none⟩ = some (.slice A1_1 l1_1.length c1_1)) (ds := []) #[false, false, false, false, false, false, false, false] (by kernel_rfl) rfl rfl ⟨(blk_cell BK213.out 0).trans rfl, (blk_cell BK213.out 1).trans rfl⟩ (fun hHeld => ?_); refine with_tabW zone_both_v1.tab10 zone_both_v1.bits10 (fun HT_ HW_ => ?_)
     generalize w43.drew = w44 at BK213 BK214 BK215 HB hHeld ⊢
     refine pu_ 0 (some 45) ?_
     refine pu_ 2 (some 47) ?_
     refine take_ (i := 1) (N := some 46) (v := ?_) (a' := ?_) #[true, true, true, false, false, false, false, false] rfl rfl (take_ofW HT_.out HW_.out (by kernel_rfl)) (fun _ _ _ h => h) (Or.inl ⟨by rfl, ?_⟩) hHeld ?_ ?_
     rotate_left
     · rintro w' ⟨s0, s1⟩
       go_simp
       with_reducible rfl
     rotate_left
     · exact AP_
     refine take_ (i := 3) (N := some 48) (v := ?_) (a' := ?_) #[true, true, true, true, false, false, false, false] rfl rfl (take_ofW HT_.out HW_.out (by kernel_rfl)) (fun _ _ _ h => h) (Or.inl ⟨by rfl, ?_⟩) hHeld ?_ ?_
     rotate_left
     · rintro w' ⟨s0, s1⟩
       go_simp
       with_reducible rfl
     rotate_left
     · exact AP_
     refine on_ 4 (some 49) (fun K hK => ?_)
     refine goes_ Try.func85 (by kernel_rfl) rfl #[.slice A1_1 l1_1.length c1_1] (by rfl) rfl rfl MP_ ?_
     with_reducible refine (slices_Clone_int_int.calls _ _ l1_1 t221 _ ?side1 ?side2 A37.out).mono ?_
     (case side1 => exact sd_ (Kd.C_below HR1_1.out HB.out))
     (case side2 => exact HC1_1.out)
     rintro e w45 ⟨v222, rfl, ho0, hb⟩
     refine ⟨_, rfl, ?_⟩
     have n_ := a_ (Aside0.mk (Kd.R_lower ho0 (below_size HB_))) (a_ (bb_ BK213 hb) (a_ (bb_ BK214 hb) (a_ (bb_ BK215 hb) (bs_ HB hb))))
     clear BK213 BK214 BK215 HB
     obtain ⟨HO223, BK213, BK214, BK215, HB⟩ := n_
     (try clear hb)
     (try clear hb2)
     (try clear hk)
     (try clear hi)
     (try clear ho0)
     obtain ⟨Ao46, co46, eo46⟩ := Kd.R_slice HO223.out
     (first | subst eo46 | (injection eo46 with f1_ f2_ f3_; have f4_ := f1_.symm; have f5_ := f3_.symm; clear f1_ f2_ f3_; subst f4_; subst f5_))
     refine hK.out _ _ ⟨(blk_cell BK213.out 0).trans rfl, (blk_cell BK213.out 1).trans rfl⟩ (fun hHeld => ?_)
     clear hK K
     refine nm_ ?_
     refine pu_ 5 (some 50) ?_
     refine on_ 6 (none) (fun K hK => ?_)
     have hs47 : w45.cell? ⟨gb215, 0, none⟩ = some (.int .i64 0) := (blk_cell BK215.out 0).trans rfl
     have hfs47 := blk_frozen BK215.out 0
     have hns47_0 := NB213_215.out
     have hns47_1 := NB214_215.out
     have hms47_0 := NB215_213.out
     have hms47_1 := NB215_214.out
     have hs48 : w45.cell? ⟨gb215, 1, none⟩ = some (.slice none 0 0) := (blk_cell BK215.out 1).trans rfl
     have hfs48 := blk_frozen BK215.out 1
     have hns48_0 := NB213_215.out
     have hns48_1 := NB214_215.out
     have hms48_0 := NB215_213.out
     have hms48_1 := NB215_214.out
     refine skip_ (w1 := ?_) (by rfl) rfl ?_ ?_
     rotate_left
     · go_simp
       rfl
     refine hK.out _ _ ⟨((cell_far (p := ⟨gb215, _, none⟩) NB213_215.out _).trans (((cell_far (p := ⟨gb215, _, none⟩) NB213_215.out _).trans (hHeld.1)))), ((cell_far (p := ⟨gb215, _, none⟩) NB213_215.out _).trans (((cell_far (p := ⟨gb215, _, none⟩) NB213_215.out _).trans (hHeld.2))))⟩ (fun hHeld => ?_)
     clear hK K
     refine pu_ 7 (some 9) ?_
     refine done_ (done_of HT_.out (by kernel_rfl)) ?_
     try go_wp2
     refine bodyPost_ret (results_ct rfl _ _ gb215 24 #[.int .i64 a1_0, .slice Ao46 t221.length co46] (0, 0) _ rfl (bk2_ BK215.out) Try.underlying24 rfl (by kernel_rfl)) rfl ?_
     exact ⟨_, by first | rfl | (simp [errW_none, errW_some] <;> rfl) | (simp [*, errW_none, errW_some] <;> rfl), by (with_reducible repeat (first | apply Kd.R_alloc | apply Kd.R_drewN | apply Kd.R_drew)); exact Kd.R_mono (Kd.R_far (p := ⟨gb215, 1, none⟩) (Kd.R_far (p := ⟨gb215, 0, none⟩) (Kd.R_types HO223.out BK215.out (by decide)) (fun _ hk => hk.2) (.int .i64 a1_0)) (fun _ hk => hk.2) (.slice Ao46 t221.length co46)) (fun _ hk => trivial), HB_⟩
end Go.Proofs.Ytgeemdpflcefkaa.Y
