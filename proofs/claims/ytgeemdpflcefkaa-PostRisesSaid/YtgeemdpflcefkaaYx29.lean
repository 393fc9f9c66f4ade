import Derived.Test.YtgeemdpflcefkaaYx0
import Derived.Test.YtgeemdpflcefkaaYx3
import Derived.Test.YtgeemdpflcefkaaYx12
import Derived.Test.YtgeemdpflcefkaaYx23
namespace Go.Proofs.Ytgeemdpflcefkaa.Y
open Go.RowKit Go.Proofs.YtgeemdpflcefkaaW.PrintWords Go.Proofs.YtgeemdpflcefkaaW.PrintLast Go.Proofs.YtgeemdpflcefkaaW.PrintMore
attribute [local go_sem] max2_int min2_int max_two min_two max_three min_three max_four min_four   -- for this text's walks alone
set_option linter.unusedVariables false
set_option linter.unusedSimpArgs false
def post_Fault.f (k : Nat) (a0_0 : Int) (l0_1 : List Int) (a1_0 : Int) (a1_1 : Int) (a1_2 : Int) (a1_3 : Int) (a1_4 : Int) : Option (Int × List Int × Int) := (post_check.f k a0_0 l0_1 a1_0 a1_1 a1_2 a1_3 a1_4).bind fun t320 => (if t320 = 0 then (if a1_0 = 5 then ((zone_Limit.f k a0_0 l0_1 a1_2 a1_1 (wrap64 ((wrap64 (-a1_3)) - 1))).bind fun bt321 => (some (bt321.1, bt321.2.1, bt321.2.2))) else (some (a0_0, ([] : List Int), 0))) else (some (0, ([] : List Int), t320)))
theorem post_Fault.mono : ∀ a0 a1 a2 a3 a4 a5 a6 k, LeO (post_Fault.f k a0 a1 a2 a3 a4 a5 a6) (post_Fault.f (k + 1) a0 a1 a2 a3 a4 a5 a6) := by
 intro a0 a1 a2 a3 a4 a5 a6 k
 unfold post_Fault.f
 repeat' first
  | (with_reducible exact post_check.mono _ _ _ _ _ _ _ _)
  | (with_reducible exact zone_Limit.mono _ _ _ _ _ _)
  | (with_reducible exact LeO.refl _)
  | (with_reducible exact LeO.none _)
  | (with_reducible refine LeO.ite ?_ ?_)
  | (with_reducible refine LeO.bind ?_ (fun _ => ?_))
  | exact post_check.mono _ _ _ _ _ _ _ _
  | exact zone_Limit.mono _ _ _ _ _ _
  | exact LeO.none _
  | refine LeO.ite ?_ ?_
  | refine LeO.bind ?_ (fun _ => ?_)
set_option maxHeartbeats 8000000 in
set_option maxRecDepth 100000 in
theorem post_Fault.calls (k : Nat) (a0_0 : Int) (A0_1 : Option Addr) (c0_1 : Nat) (l0_1 : List Int) (a1_0 : Int) (a1_1 : Int) (a1_2 : Int) (a1_3 : Int) (a1_4 : Int) (r1 : Int) (r2 : List Int) (r3 : Int) (w : World) (hr0_1 : Kd.C (Kd.int .i64) w A0_1 l0_1.length l0_1) (hc0_1 : l0_1.length ≤ c0_1) (h : post_Fault.f k a0_0 l0_1 a1_0 a1_1 a1_2 a1_3 a1_4 = some (r1, r2, r3)) :
   Calls Try.prog 16 #[.agg #[.int .i64 a0_0, .slice A0_1 l0_1.length c0_1], .agg #[.int .i64 a1_0, .int .i64 a1_1, .int .i64 a1_2, .int .i64 a1_3, .int .i64 a1_4]] w fun e w' => ∃ v1_ : Value, e = .returned (.tuple #[.agg #[.int .i64 r1, v1_], .int .i64 r3]) ∧ Kd.R (Kd.int .i64) 3 w' w.heap.size (fun _ => True) v1_ r2 ∧ Below w.heap.size w w' := by
 have hu24 := Try.underlying24
 have hu26 := Try.underlying26
 have HR0_1 := Aside0.mk hr0_1
 have HC0_1 := Aside0.mk hc0_1
 clear hr0_1 hc0_1
 have HB := Aside0.mk (Below.refl w.heap.size w)
 have H : ((post_check.f k a0_0 l0_1 a1_0 a1_1 a1_2 a1_3 a1_4).bind fun t320 => (if t320 = 0 then (if a1_0 = 5 then ((zone_Limit.f k a0_0 l0_1 a1_2 a1_1 (wrap64 ((wrap64 (-a1_3)) - 1))).bind fun bt321 => (some (bt321.1, bt321.2.1, bt321.2.2))) else (some (a0_0, ([] : List Int), 0))) else (some (0, ([] : List Int), t320)))) = some (r1, r2, r3) := h
 clear h
 replace H := Option.bind_eq_some_iff.mp H
 obtain ⟨t320, A30, H⟩ := H
 replace H : (if t320 = 0 then (if a1_0 = 5 then ((zone_Limit.f k a0_0 l0_1 a1_2 a1_1 (wrap64 ((wrap64 (-a1_3)) - 1))).bind fun bt321 => (some (bt321.1, bt321.2.1, bt321.2.2))) else (some (a0_0, ([] : List Int), 0))) else (some (0, ([] : List Int), t320))) = some (r1, r2, r3) := H
 have A3 := Aside0.mk A30
 clear A30
 by_cases c4 : t320 = 0
 rotate_left
 · rw [if_neg c4] at H
   have c4b0 : (t320 == 0) = false := beq_eq_false_iff_ne.mpr c4
   have c4b1 : (t320 != 0) = true := bne_iff_ne.mpr c4
   simp only [Option.some.injEq, Prod.mk.injEq] at H
   obtain ⟨rfl, rfl, rfl⟩ := H
   go_enter Try.func16, Try.ntmps16
   go_wp2_with (first | ((with_reducible refine gate_dst (N := 2) rfl ?_); refine bx_ (N := 2) (cs := #[.int .i64 a0_0, .slice A0_1 l0_1.length c0_1]) (t := 24) ?_; intro gb317 hg w33 hbox hb; have n_ := a_ (bs_ HB hb) (a_ (Aside0.mk hbox) (a_ (gs_ HB hg) (gs_ HB hg))); clear HB; obtain ⟨HB, BK317, GW317, GE317⟩ := n_; clear hb hbox hg) | ((with_reducible refine gate_dst (N := 3) rfl ?_); refine bx_ (N := 3) (cs := #[.int .i64 a1_0, .int .i64 a1_1, .int .i64 a1_2, .int .i64 a1_3, .int .i64 a1_4]) (t := 26) ?_; intro gb318 hg w34 hbox hb; have n_ := a_ (bb_ BK317 hb) (a_ (bs_ HB hb) (a_ (Aside0.mk hbox) (a_ (gs_ HB hg) (a_ (gs_ HB hg) (a_ (nl_ BK317 hg) (ng_ BK317 hg)))))); clear BK317 HB; obtain ⟨BK317, HB, BK318, GW318, GE318, NB317_318, NB318_317⟩ := n_; clear hb hbox hg) | ((with_reducible refine gate_dst (N := 4) rfl ?_); refine bx_ (N := 4) (cs := #[.int .i64 0, .slice none 0 0]) (t := 24) ?_; intro gb319 hg w35 hbox hb; have n_ := a_ (bb_ BK317 hb) (a_ (bb_ BK318 hb) (a_ (bs_ HB hb) (a_ (Aside0.mk hbox) (a_ (gs_ HB hg) (a_ (gs_ HB hg) (a_ (nl_ BK317 hg) (a_ (ng_ BK317 hg) (a_ (nl_ BK318 hg) (ng_ BK318 hg))))))))); clear BK317 BK318 HB; obtain ⟨BK317, BK318, HB, BK319, GW319, GE319, NB317_319, NB319_317, NB318_319, NB319_318⟩ := n_; clear hb hbox hg; have hnb36 := NB317_318.out; have hnc36 := NB318_317.out; have hnb37 := NB317_319.out; have hnc37 := NB319_317.out; obtain ⟨hcz38_0, hcz38_1, hfz38_0, hfz38_1⟩ := cz2_ BK317; have hnb39 := NB318_319.out; have hnc39 := NB319_318.out; obtain ⟨hcz40_0, hcz40_1, hcz40_2, hcz40_3, hcz40_4, hfz40_0, hfz40_1, hfz40_2, hfz40_3, hfz40_4⟩ := cz5_ BK318) | ((with_reducible refine gate_callee (f := 61) rfl ?_); refine goesL_ (some 9) rfl rfl Try.func61 (by kernel_rfl) rfl #[.agg #[.int .i64 a0_0, .slice A0_1 l0_1.length c0_1], .agg #[.int .i64 a1_0, .int .i64 a1_1, .int .i64 a1_2, .int .i64 a1_3, .int .i64 a1_4]] rfl MP_ ?_; (with_reducible refine (post_check.calls k a0_0 _ _ l0_1 a1_0 a1_1 a1_2 a1_3 a1_4 t320 _ ?side1 ?side2 A3.out).mono ?_); (case side1 => exact sd_ (Kd.C_below HR0_1.out HB.out)); (case side2 => exact HC0_1.out); rintro e w41 ⟨rfl, hb⟩; refine ⟨_, rfl, ?_⟩; have n_ := a_ (bb_ BK317 hb) (a_ (bb_ BK318 hb) (a_ (bb_ BK319 hb) (bs_ HB hb))); clear BK317 BK318 BK319 HB; obtain ⟨BK317, BK318, BK319, HB⟩ := n_; (try clear hb); (try clear hb2); (try clear hk); (try clear hi); obtain ⟨hcz42_0, hcz42_1, hfz42_0, hfz42_1⟩ := cz2_ BK319))
   refine bodyPost_ret (results_ct rfl _ _ gb319 24 #[.int .i64 0, .slice none 0 0] (0, 0) _ rfl (bk2_ BK319.out) Try.underlying24 rfl (by kernel_rfl)) rfl ?_
   exact ⟨_, by first | rfl | (simp [errW_none, errW_some] <;> rfl) | (simp [*, errW_none, errW_some] <;> rfl), by first | exact Kd.R_nil _ _ _ _ _ | exact Kd.N_nil _ _ _ _ _ | exact Kd.V_nil _ _ _ _ _ | exact Kd.Q_nil _ _ _ _ _ | exact Kd.S_nil _ _ _ _ _, HB_⟩
 rw [if_pos c4] at H
 have c4b0 : (t320 == 0) = true := beq_iff_eq.mpr c4
 have c4b1 : (t320 != 0) = false := bne_eq_false_iff_eq.mpr c4
 clear c4
 by_cases c5 : a1_0 = 5
 rotate_left
 · rw [if_neg c5] at H
   have c5b0 : (a1_0 == 5) = false := beq_eq_false_iff_ne.mpr c5
   have c5b1 : (a1_0 != 5) = true := bne_iff_ne.mpr c5
   simp only [Option.some.injEq, Prod.mk.injEq] at H
   obtain ⟨rfl, rfl, rfl⟩ := H
   go_enter Try.func16, Try.ntmps16
   go_wp2_with (first | ((with_reducible refine gate_dst (N := 2) rfl ?_); refine bx_ (N := 2) (cs := #[.int .i64 a0_0, .slice A0_1 l0_1.length c0_1]) (t := 24) ?_; intro gb317 hg w21 hbox hb; have n_ := a_ (bs_ HB hb) (a_ (Aside0.mk hbox) (a_ (gs_ HB hg) (gs_ HB hg))); clear HB; obtain ⟨HB, BK317, GW317, GE317⟩ := n_; clear hb hbox hg) | ((with_reducible refine gate_dst (N := 3) rfl ?_); refine bx_ (N := 3) (cs := #[.int .i64 a1_0, .int .i64 a1_1, .int .i64 a1_2, .int .i64 a1_3, .int .i64 a1_4]) (t := 26) ?_; intro gb318 hg w22 hbox hb; have n_ := a_ (bb_ BK317 hb) (a_ (bs_ HB hb) (a_ (Aside0.mk hbox) (a_ (gs_ HB hg) (a_ (gs_ HB hg) (a_ (nl_ BK317 hg) (ng_ BK317 hg)))))); clear BK317 HB; obtain ⟨BK317, HB, BK318, GW318, GE318, NB317_318, NB318_317⟩ := n_; clear hb hbox hg) | ((with_reducible refine gate_dst (N := 4) rfl ?_); refine bx_ (N := 4) (cs := #[.int .i64 0, .slice none 0 0]) (t := 24) ?_; intro gb319 hg w23 hbox hb; have n_ := a_ (bb_ BK317 hb) (a_ (bb_ BK318 hb) (a_ (bs_ HB hb) (a_ (Aside0.mk hbox) (a_ (gs_ HB hg) (a_ (gs_ HB hg) (a_ (nl_ BK317 hg) (a_ (ng_ BK317 hg) (a_ (nl_ BK318 hg) (ng_ BK318 hg))))))))); clear BK317 BK318 HB; obtain ⟨BK317, BK318, HB, BK319, GW319, GE319, NB317_319, NB319_317, NB318_319, NB319_318⟩ := n_; clear hb hbox hg; have hnb24 := NB317_318.out; have hnc24 := NB318_317.out; have hnb25 := NB317_319.out; have hnc25 := NB319_317.out; obtain ⟨hcz26_0, hcz26_1, hfz26_0, hfz26_1⟩ := cz2_ BK317; have hnb27 := NB318_319.out; have hnc27 := NB319_318.out; obtain ⟨hcz28_0, hcz28_1, hcz28_2, hcz28_3, hcz28_4, hfz28_0, hfz28_1, hfz28_2, hfz28_3, hfz28_4⟩ := cz5_ BK318) | ((with_reducible refine gate_callee (f := 61) rfl ?_); refine goesL_ (some 9) rfl rfl Try.func61 (by kernel_rfl) rfl #[.agg #[.int .i64 a0_0, .slice A0_1 l0_1.length c0_1], .agg #[.int .i64 a1_0, .int .i64 a1_1, .int .i64 a1_2, .int .i64 a1_3, .int .i64 a1_4]] rfl MP_ ?_; (with_reducible refine (post_check.calls k a0_0 _ _ l0_1 a1_0 a1_1 a1_2 a1_3 a1_4 t320 _ ?side1 ?side2 A3.out).mono ?_); (case side1 => exact sd_ (Kd.C_below HR0_1.out HB.out)); (case side2 => exact HC0_1.out); rintro e w29 ⟨rfl, hb⟩; refine ⟨_, rfl, ?_⟩; have n_ := a_ (bb_ BK317 hb) (a_ (bb_ BK318 hb) (a_ (bb_ BK319 hb) (bs_ HB hb))); clear BK317 BK318 BK319 HB; obtain ⟨BK317, BK318, BK319, HB⟩ := n_; (try clear hb); (try clear hb2); (try clear hk); (try clear hi); obtain ⟨hcz30_0, hcz30_1, hcz30_2, hcz30_3, hcz30_4, hfz30_0, hfz30_1, hfz30_2, hfz30_3, hfz30_4⟩ := cz5_ BK318; obtain ⟨hcz31_0, hcz31_1, hfz31_0, hfz31_1⟩ := cz2_ BK317; obtain ⟨hcz32_0, hcz32_1, hfz32_0, hfz32_1⟩ := cz2_ BK319))
   refine bodyPost_ret (results_ct rfl _ _ gb319 24 #[.int .i64 a0_0, .slice none 0 0] (0, 0) _ rfl (bk2_ BK319.out) Try.underlying24 rfl (by kernel_rfl)) rfl ?_
   exact ⟨_, by first | rfl | (simp [errW_none, errW_some] <;> rfl) | (simp [*, errW_none, errW_some] <;> rfl), by first | exact Kd.R_nil _ _ _ _ _ | exact Kd.N_nil _ _ _ _ _ | exact Kd.V_nil _ _ _ _ _ | exact Kd.Q_nil _ _ _ _ _ | exact Kd.S_nil _ _ _ _ _, HB_⟩
 rw [if_pos c5] at H
 have c5b0 : (a1_0 == 5) = true := beq_iff_eq.mpr c5
 have c5b1 : (a1_0 != 5) = false := bne_eq_false_iff_eq.mpr c5
 clear c5
 replace H := Option.bind_eq_some_iff.mp H
 obtain ⟨⟨t321, t322, t325⟩, A60, H⟩ := H
 replace H : (some (t321, t322, t325)) = some (r1, r2, r3) := H
 have A6 := Aside0.mk A60
 clear A60
 simp only [Option.some.injEq, Prod.mk.injEq] at H
 obtain ⟨rfl, rfl, rfl⟩ := H
 go_enter Try.func16, Try.ntmps16
 go_wp2_with (first | ((with_reducible refine gate_dst (N := 2) rfl ?_); refine bx_ (N := 2) (cs := #[.int .i64 a0_0, .slice A0_1 l0_1.length c0_1]) (t := 24) ?_; intro gb317 hg w7 hbox hb; have n_ := a_ (bs_ HB hb) (a_ (Aside0.mk hbox) (a_ (gs_ HB hg) (gs_ HB hg))); clear HB; obtain ⟨HB, BK317, GW317, GE317⟩ := n_; clear hb hbox hg) | ((with_reducible refine gate_dst (N := 3) rfl ?_); refine bx_ (N := 3) (cs := #[.int .i64 a1_0, .int .i64 a1_1, .int .i64 a1_2, .int .i64 a1_3, .int .i64 a1_4]) (t := 26) ?_; intro gb318 hg w8 hbox hb; have n_ := a_ (bb_ BK317 hb) (a_ (bs_ HB hb) (a_ (Aside0.mk hbox) (a_ (gs_ HB hg) (a_ (gs_ HB hg) (a_ (nl_ BK317 hg) (ng_ BK317 hg)))))); clear BK317 HB; obtain ⟨BK317, HB, BK318, GW318, GE318, NB317_318, NB318_317⟩ := n_; clear hb hbox hg) | ((with_reducible refine gate_dst (N := 4) rfl ?_); refine bx_ (N := 4) (cs := #[.int .i64 0, .slice none 0 0]) (t := 24) ?_; intro gb319 hg w9 hbox hb; have n_ := a_ (bb_ BK317 hb) (a_ (bb_ BK318 hb) (a_ (bs_ HB hb) (a_ (Aside0.mk hbox) (a_ (gs_ HB hg) (a_ (gs_ HB hg) (a_ (nl_ BK317 hg) (a_ (ng_ BK317 hg) (a_ (nl_ BK318 hg) (ng_ BK318 hg))))))))); clear BK317 BK318 HB; obtain ⟨BK317, BK318, HB, BK319, GW319, GE319, NB317_319, NB319_317, NB318_319, NB319_318⟩ := n_; clear hb hbox hg; have hnb10 := NB317_318.out; have hnc10 := NB318_317.out; have hnb11 := NB317_319.out; have hnc11 := NB319_317.out; obtain ⟨hcz12_0, hcz12_1, hfz12_0, hfz12_1⟩ := cz2_ BK317; have hnb13 := NB318_319.out; have hnc13 := NB319_318.out; obtain ⟨hcz14_0, hcz14_1, hcz14_2, hcz14_3, hcz14_4, hfz14_0, hfz14_1, hfz14_2, hfz14_3, hfz14_4⟩ := cz5_ BK318) | ((with_reducible refine gate_callee (f := 61) rfl ?_); refine goesL_ (some 9) rfl rfl Try.func61 (by kernel_rfl) rfl #[.agg #[.int .i64 a0_0, .slice A0_1 l0_1.length c0_1], .agg #[.int .i64 a1_0, .int .i64 a1_1, .int .i64 a1_2, .int .i64 a1_3, .int .i64 a1_4]] rfl MP_ ?_; (with_reducible refine (post_check.calls k a0_0 _ _ l0_1 a1_0 a1_1 a1_2 a1_3 a1_4 t320 _ ?side1 ?side2 A3.out).mono ?_); (case side1 => exact sd_ (Kd.C_below HR0_1.out HB.out)); (case side2 => exact HC0_1.out); rintro e w15 ⟨rfl, hb⟩; refine ⟨_, rfl, ?_⟩; have n_ := a_ (bb_ BK317 hb) (a_ (bb_ BK318 hb) (a_ (bb_ BK319 hb) (bs_ HB hb))); clear BK317 BK318 BK319 HB; obtain ⟨BK317, BK318, BK319, HB⟩ := n_; (try clear hb); (try clear hb2); (try clear hk); (try clear hi); obtain ⟨hcz16_0, hcz16_1, hcz16_2, hcz16_3, hcz16_4, hfz16_0, hfz16_1, hfz16_2, hfz16_3, hfz16_4⟩ := cz5_ BK318; obtain ⟨hcz17_0, hcz17_1, hfz17_0, hfz17_1⟩ := cz2_ BK317) | ((with_reducible refine gate_callee (f := 23) rfl ?_); refine goesL_ (some 31) rfl rfl Try.func23 (by kernel_rfl) rfl #[.agg #[.int .i64 a0_0, .slice A0_1 l0_1.length c0_1], .int .i64 a1_2, .int .i64 a1_1, .int .i64 (wrap64 ((wrap64 (-a1_3)) - 1))] rfl MP_ ?_; (with_reducible refine (zone_Limit.calls k a0_0 _ _ l0_1 a1_2 a1_1 (wrap64 ((wrap64 (-a1_3)) - 1)) t321 t322 t325 _ ?side1 ?side2 A6.out).mono ?_); (case side1 => exact sd_ (Kd.C_below HR0_1.out HB.out)); (case side2 => exact HC0_1.out); rintro e w18 ⟨v323, rfl, ho0, hb⟩; refine ⟨_, rfl, ?_⟩; have n_ := a_ (Aside0.mk (Kd.R_lower ho0 (below_size HB_))) (a_ (bb_ BK317 hb) (a_ (bb_ BK318 hb) (a_ (bb_ BK319 hb) (bs_ HB hb)))); clear BK317 BK318 BK319 HB; obtain ⟨HO324, BK317, BK318, BK319, HB⟩ := n_; (try clear hb); (try clear hb2); (try clear hk); (try clear hi); (try clear ho0); obtain ⟨hcz19_0, hcz19_1, hfz19_0, hfz19_1⟩ := cz2_ BK319; obtain ⟨Ao20, co20, eo20⟩ := Kd.R_slice HO324.out; subst eo20))
 refine bodyPost_ret (results_ct rfl _ _ gb319 24 #[.int .i64 t321, .slice Ao20 t322.length co20] (0, 0) _ rfl (bk2_ BK319.out) Try.underlying24 rfl (by kernel_rfl)) rfl ?_
 exact ⟨_, by first | rfl | (simp [errW_none, errW_some] <;> rfl) | (simp [*, errW_none, errW_some] <;> rfl), by (with_reducible repeat (first | apply Kd.R_alloc | apply Kd.R_drewN | apply Kd.R_drew)); exact Kd.R_mono (Kd.R_far (p := ⟨gb319, 1, none⟩) (Kd.R_far (p := ⟨gb319, 0, none⟩) (Kd.R_types HO324.out BK319.out (by decide)) (fun _ hk => hk.2) (.int .i64 t321)) (fun _ hk => hk.2) (.slice Ao20 t322.length co20)) (fun _ hk => trivial), HB_⟩
mutual
def warrantorref08_Same.j0 : Nat → Bool → Int → List Int → Int → List Int → Option (Bool)
 | 0, _, _, _, _, _ => none
 | k + 1, x19, x327000, x327001, x328000, x328001 => if x19 = true then (some false) else (warrantorref08_Same.l0 k 0 x327000 x327001 x328000 x328001)
def warrantorref08_Same.l0 : Nat → Int → Int → List Int → Int → List Int → Option (Bool)
 | 0, _, _, _, _, _ => none
 | k + 1, x5, x327000, x327001, x328000, x328001 => if x5 < (x327001.length : Int) then (if 0 ≤ x5 then (if x5 < (x328001.length : Int) then (if (rd x327001 x5) = (rd x328001 x5) then (warrantorref08_Same.l0 k (wrap64 (x5 + 1)) x327000 x327001 x328000 x328001) else (some false)) else (none)) else (none)) else (some true)
end
def warrantorref08_Same.f (k : Nat) (a0_0 : Int) (l0_1 : List Int) (a1_0 : Int) (l1_1 : List Int) : Option (Bool) := if a0_0 = a1_0 then (warrantorref08_Same.j0 k ((l0_1.length : Int) != (l1_1.length : Int)) a0_0 l0_1 a1_0 l1_1) else (warrantorref08_Same.j0 k true a0_0 l0_1 a1_0 l1_1)
theorem warrantorref08_Same.mono_l : ∀ k, (∀ y0 y1 y2 y3 y4, LeO (warrantorref08_Same.j0 k y0 y1 y2 y3 y4) (warrantorref08_Same.j0 (k + 1) y0 y1 y2 y3 y4)) ∧ (∀ y0 y1 y2 y3 y4, LeO (warrantorref08_Same.l0 k y0 y1 y2 y3 y4) (warrantorref08_Same.l0 (k + 1) y0 y1 y2 y3 y4))
 | 0 => ⟨fun _ _ _ _ _ r h => by simp [warrantorref08_Same.j0] at h, fun _ _ _ _ _ r h => by simp [warrantorref08_Same.l0] at h⟩
 | k + 1 => by
  obtain ⟨ih0, ih1⟩ := warrantorref08_Same.mono_l k
  refine ⟨?_, ?_⟩
  · intro y0 y1 y2 y3 y4
    unfold warrantorref08_Same.j0
    repeat' first
    | (with_reducible exact ih0 _ _ _ _ _)
    | (with_reducible exact ih1 _ _ _ _ _)
    | (with_reducible exact LeO.refl _)
    | (with_reducible exact LeO.none _)
    | (with_reducible refine LeO.ite ?_ ?_)
    | (with_reducible refine LeO.bind ?_ (fun _ => ?_))
    | exact ih0 _ _ _ _ _
    | exact ih1 _ _ _ _ _
    | exact LeO.none _
    | refine LeO.ite ?_ ?_
    | refine LeO.bind ?_ (fun _ => ?_)
  · intro y0 y1 y2 y3 y4
    unfold warrantorref08_Same.l0
    repeat' first
    | (with_reducible exact ih0 _ _ _ _ _)
    | (with_reducible exact ih1 _ _ _ _ _)
    | (with_reducible exact LeO.refl _)
    | (with_reducible exact LeO.none _)
    | (with_reducible refine LeO.ite ?_ ?_)
    | (with_reducible refine LeO.bind ?_ (fun _ => ?_))
    | exact ih0 _ _ _ _ _
    | exact ih1 _ _ _ _ _
    | exact LeO.none _
    | refine LeO.ite ?_ ?_
    | refine LeO.bind ?_ (fun _ => ?_)
theorem warrantorref08_Same.mono : ∀ a0 a1 a2 a3 k, LeO (warrantorref08_Same.f k a0 a1 a2 a3) (warrantorref08_Same.f (k + 1) a0 a1 a2 a3) := by
 intro a0 a1 a2 a3 k
 obtain ⟨ih0, ih1⟩ := warrantorref08_Same.mono_l k
 unfold warrantorref08_Same.f
 repeat' first
  | (with_reducible exact ih0 _ _ _ _ _)
  | (with_reducible exact ih1 _ _ _ _ _)
  | (with_reducible exact LeO.refl _)
  | (with_reducible exact LeO.none _)
  | (with_reducible refine LeO.ite ?_ ?_)
  | (with_reducible refine LeO.bind ?_ (fun _ => ?_))
  | exact ih0 _ _ _ _ _
  | exact ih1 _ _ _ _ _
  | exact LeO.none _
  | refine LeO.ite ?_ ?_
  | refine LeO.bind ?_ (fun _ => ?_)
set_option maxHeartbeats 8000000 in
set_option maxRecDepth 100000 in
theorem warrantorref08_Same.calls (k : Nat) (a0_0 : Int) (A0_1 : Option Addr) (c0_1 : Nat) (l0_1 : List Int) (a1_0 : Int) (A1_1 : Option Addr) (c1_1 : Nat) (l1_1 : List Int) (r : Bool) (w : World) (hr0_1 : Kd.C (Kd.int .i64) w A0_1 l0_1.length l0_1) (hc0_1 : l0_1.length ≤ c0_1) (hr1_1 : Kd.C (Kd.int .i64) w A1_1 l1_1.length l1_1) (hc1_1 : l1_1.length ≤ c1_1) (h : warrantorref08_Same.f k a0_0 l0_1 a1_0 l1_1 = some r) :
  Calls Try.prog 17 #[.agg #[.int .i64 a0_0, .slice A0_1 l0_1.length c0_1], .agg #[.int .i64 a1_0, .slice A1_1 l1_1.length c1_1]] w fun e w' => e = .returned (.bool r) ∧ Below w.heap.size w w' := by
 have hu24 := Try.underlying24
 have HR0_1 := Aside0.mk hr0_1
 have HC0_1 := Aside0.mk hc0_1
 clear hr0_1 hc0_1
 have HR1_1 := Aside0.mk hr1_1
 have HC1_1 := Aside0.mk hc1_1
 clear hr1_1 hc1_1
 have HB := Aside0.mk (Below.refl w.heap.size w)
 have H : (if a0_0 = a1_0 then (warrantorref08_Same.j0 k ((l0_1.length : Int) != (l1_1.length : Int)) a0_0 l0_1 a1_0 l1_1) else (warrantorref08_Same.j0 k true a0_0 l0_1 a1_0 l1_1)) = some r := h
 clear h
 have HC3 := Aside0.mk H
 clear H
 go_enter Try.func17, Try.ntmps17
 go_upto_region 1 with (first | ((with_reducible refine gate_dst (N := 2) rfl ?_); (try (refine gate_guard (by rfl) ?_; dsimp only)); refine bx_ (N := 2) (cs := #[.int .i64 a0_0, .slice A0_1 l0_1.length c0_1]) (t := 24) ?_; intro gb326 hg w4 hbox hb; have n_ := a_ (bs_ HB hb) (a_ (Aside0.mk hbox) (a_ (gs_ HB hg) (gs_ HB hg))); clear HB; obtain ⟨HB, BK326, GW326, GE326⟩ := n_; clear hb hbox hg) | ((with_reducible refine gate_dst (N := 3) rfl ?_); (try (refine gate_guard (by rfl) ?_; dsimp only)); refine bx_ (N := 3) (cs := #[.int .i64 a1_0, .slice A1_1 l1_1.length c1_1]) (t := 24) ?_; intro gb327 hg w5 hbox hb; have n_ := a_ (bb_ BK326 hb) (a_ (bs_ HB hb) (a_ (Aside0.mk hbox) (a_ (gs_ HB hg) (a_ (gs_ HB hg) (a_ (nl_ BK326 hg) (ng_ BK326 hg)))))); clear BK326 HB; obtain ⟨BK326, HB, BK327, GW327, GE327, NB326_327, NB327_326⟩ := n_; clear hb hbox hg))
 repeat (go_quiet (first | ((with_reducible refine gate_dst (N := 2) rfl ?_); (try (refine gate_guard (by rfl) ?_; dsimp only)); refine bx_ (N := 2) (cs := #[.int .i64 a0_0, .slice A0_1 l0_1.length c0_1]) (t := 24) ?_; intro gb326 hg w4 hbox hb; have n_ := a_ (bs_ HB hb) (a_ (Aside0.mk hbox) (a_ (gs_ HB hg) (gs_ HB hg))); clear HB; obtain ⟨HB, BK326, GW326, GE326⟩ := n_; clear hb hbox hg) | ((with_reducible refine gate_dst (N := 3) rfl ?_); (try (refine gate_guard (by rfl) ?_; dsimp only)); refine bx_ (N := 3) (cs := #[.int .i64 a1_0, .slice A1_1 l1_1.length c1_1]) (t := 24) ?_; intro gb327 hg w5 hbox hb; have n_ := a_ (bb_ BK326 hb) (a_ (bs_ HB hb) (a_ (Aside0.mk hbox) (a_ (gs_ HB hg) (a_ (gs_ HB hg) (a_ (nl_ BK326 hg) (ng_ BK326 hg)))))); clear BK326 HB; obtain ⟨BK326, HB, BK327, GW327, GE327, NB326_327, NB327_326⟩ := n_; clear hb hbox hg)); go_upto_region 1 with (first | ((with_reducible refine gate_dst (N := 2) rfl ?_); (try (refine gate_guard (by rfl) ?_; dsimp only)); refine bx_ (N := 2) (cs := #[.int .i64 a0_0, .slice A0_1 l0_1.length c0_1]) (t := 24) ?_; intro gb326 hg w4 hbox hb; have n_ := a_ (bs_ HB hb) (a_ (Aside0.mk hbox) (a_ (gs_ HB hg) (gs_ HB hg))); clear HB; obtain ⟨HB, BK326, GW326, GE326⟩ := n_; clear hb hbox hg) | ((with_reducible refine gate_dst (N := 3) rfl ?_); (try (refine gate_guard (by rfl) ?_; dsimp only)); refine bx_ (N := 3) (cs := #[.int .i64 a1_0, .slice A1_1 l1_1.length c1_1]) (t := 24) ?_; intro gb327 hg w5 hbox hb; have n_ := a_ (bb_ BK326 hb) (a_ (bs_ HB hb) (a_ (Aside0.mk hbox) (a_ (gs_ HB hg) (a_ (gs_ HB hg) (a_ (nl_ BK326 hg) (ng_ BK326 hg)))))); clear BK326 HB; obtain ⟨BK326, HB, BK327, GW327, GE327, NB326_327, NB327_326⟩ := n_; clear hb hbox hg)))
 (try simp only [Act.put, List.setIfInBounds_toArray, List.set_cons_zero, List.set_cons_succ])
 go_cut [19] (fun v19 wc => ∃ (kq : Nat) (x19_2 : Bool), v19 = .bool x19_2 ∧ Aside0 (warrantorref08_Same.j0 kq x19_2 a0_0 l0_1 a1_0 l1_1 = some r) ∧ Aside0 (kq ≤ k) ∧ Aside0 (wc.heap[gb326]? = some (.cells #[.int .i64 a0_0, (.slice A0_1 l0_1.length c0_1)] 24 (0, 0))) ∧ Aside0 (wc.heap[gb327]? = some (.cells #[.int .i64 a1_0, (.slice A1_1 l1_1.length c1_1)] 24 (0, 0))) ∧ Aside0 (Below w.heap.size w wc))
 case first =>
  have H := HC3.out
  clear HC3
  by_cases c6 : a0_0 = a1_0
  rotate_left
  · rw [if_neg c6] at H
    have c6b0 : (a0_0 == a1_0) = false := beq_eq_false_iff_ne.mpr c6
    have c6b1 : (a0_0 != a1_0) = true := bne_iff_ne.mpr c6
    (first | rw [c6b0] | (simp only [i64_w, i32_w]; rw [c6b0]) | skip)
    have H' := Aside0.mk H
    clear H
    have hnb10 := NB326_327.out
    have hnc10 := NB327_326.out
    obtain ⟨hcz11_0, hcz11_1, hfz11_0, hfz11_1⟩ := cz2_ BK326
    obtain ⟨hcz12_0, hcz12_1, hfz12_0, hfz12_1⟩ := cz2_ BK327
    go_wp2
    repeat (go_quiet (fail); try go_wp2)
    go_meet
    case rel => exact ⟨_, (true), (by first | rfl | (simp; done) | (simp [*]; done)), H', ⟨by first | omega | exact Nat.le_refl _⟩, ⟨by (with_reducible repeat (first | refine blk_drewN ?_ _ | refine blk_drew ?_ | refine blk_alloc ?_ _)); exact BK326.out⟩, ⟨by (with_reducible repeat (first | refine blk_drewN ?_ _ | refine blk_drew ?_ | refine blk_alloc ?_ _)); exact BK327.out⟩, ⟨HB_⟩⟩
  rw [if_pos c6] at H
  have c6b0 : (a0_0 == a1_0) = true := beq_iff_eq.mpr c6
  have c6b1 : (a0_0 != a1_0) = false := bne_eq_false_iff_eq.mpr c6
  clear c6
  (first | rw [c6b0] | (simp only [i64_w, i32_w]; rw [c6b0]) | skip)
  have H' := Aside0.mk H
  clear H
  have hnb7 := NB326_327.out
  have hnc7 := NB327_326.out
  obtain ⟨hcz8_0, hcz8_1, hfz8_0, hfz8_1⟩ := cz2_ BK326
  obtain ⟨hcz9_0, hcz9_1, hfz9_0, hfz9_1⟩ := cz2_ BK327
  go_wp2
  repeat (go_quiet (fail); try go_wp2)
  go_meet
  case rel => exact ⟨_, (((l0_1.length : Int) != (l1_1.length : Int))), (by first | rfl | (simp; done) | (simp [*]; done)), H', ⟨by first | omega | exact Nat.le_refl _⟩, ⟨by (with_reducible repeat (first | refine blk_drewN ?_ _ | refine blk_drew ?_ | refine blk_alloc ?_ _)); exact BK326.out⟩, ⟨by (with_reducible repeat (first | refine blk_drewN ?_ _ | refine blk_drew ?_ | refine blk_alloc ?_ _)); exact BK327.out⟩, ⟨HB_⟩⟩
 case rest =>
  clear HC3
  try clear c1
  try clear p2
  try clear c6
  try clear c6b0
  try clear c6b1
  try clear c7
  try clear c10
  try clear hcz11_0
  try clear hcz11_1
  try clear hcz12_0
  try clear hcz12_1
  try clear hcz8_0
  try clear hcz8_1
  try clear hcz9_0
  try clear hcz9_1
  try clear hfz11_0
  try clear hfz11_1
  try clear hfz12_0
  try clear hfz12_1
  try clear hfz8_0
  try clear hfz8_1
  try clear hfz9_0
  try clear hfz9_1
  obtain ⟨kq, x19_2, rfl, HA, HJ2, BK326, BK327, HB⟩ := hcut
  cases kq with
  | zero => exact absurd HA.out (by simp [warrantorref08_Same.j0])
  | succ kj2 =>
    have H := HA.out
    clear HA
    simp only [warrantorref08_Same.j0] at H
    by_cases c13 : x19_2 = true
    · subst c13
      replace H := ps1_ H
      obtain rfl := Option.some.inj H
      go_wp2
      repeat (go_quiet (fail); try go_wp2)
      go_ret
      exact ⟨by first | rfl | (simp [errW_none, errW_some] <;> rfl) | (simp [*, errW_none, errW_some] <;> rfl), HB_⟩
    replace c13 := Bool.eq_false_iff.mpr c13
    subst c13
    replace H := ng1_ H
    have H' := Aside0.mk H
    clear H
    go_wp2
    repeat (go_quiet (fail); try go_wp2)
    go_loopg [5] kj2 (fun kq v5 w' => ∃ (x5_2 : Int), v5 = .int .i64 x5_2 ∧ Aside0 (warrantorref08_Same.l0 kq x5_2 a0_0 l0_1 a1_0 l1_1 = some r) ∧ Aside0 (kq ≤ kj2) ∧ Aside0 (w'.heap[gb326]? = some (.cells #[.int .i64 a0_0, (.slice A0_1 l0_1.length c0_1)] 24 (0, 0))) ∧ Aside0 (w'.heap[gb327]? = some (.cells #[.int .i64 a1_0, (.slice A1_1 l1_1.length c1_1)] 24 (0, 0))) ∧ Aside0 (Below w.heap.size w w'))
    case atStart => exact ⟨(0), (by first | rfl | (simp; done) | (simp [*]; done)), H', ⟨Nat.le_refl _⟩, ⟨by (with_reducible repeat (first | refine blk_drewN ?_ _ | refine blk_drew ?_ | refine blk_alloc ?_ _)); exact BK326.out⟩, ⟨by (with_reducible repeat (first | refine blk_drewN ?_ _ | refine blk_drew ?_ | refine blk_alloc ?_ _)); exact BK327.out⟩, ⟨HB_⟩⟩
    case round =>
      clear H'
      try clear c1
      try clear p2
      try clear c6
      try clear c6b0
      try clear c6b1
      try clear c7
      try clear c10
      try clear c13
      try clear hcz11_0
      try clear hcz11_1
      try clear hcz12_0
      try clear hcz12_1
      try clear hcz8_0
      try clear hcz8_1
      try clear hcz9_0
      try clear hcz9_1
      try clear hfz11_0
      try clear hfz11_1
      try clear hfz12_0
      try clear hfz12_1
      try clear hfz8_0
      try clear hfz8_1
      try clear hfz9_0
      try clear hfz9_1
      try clear p2
      obtain ⟨x5_2, rfl, HA, HK2, BK326, BK327, HB⟩ := hrel
      cases gk with
      | zero => exact absurd HA.out (by simp [warrantorref08_Same.l0])
      | succ k2 =>
       have H := HA.out
       clear HA
       simp only [warrantorref08_Same.l0] at H
       by_cases c14 : x5_2 < (l0_1.length : Int)
       rotate_left
       · rw [if_neg c14] at H
         have c14b0 : decide (x5_2 < (l0_1.length : Int)) = false := decide_eq_false c14
         clear c14
         obtain rfl := Option.some.inj H
         have hnb24 := NB326_327.out
         have hnc24 := NB327_326.out
         obtain ⟨hcz25_0, hcz25_1, hfz25_0, hfz25_1⟩ := cz2_ BK326
         go_wp2
         repeat (go_quiet (fail); try go_wp2)
         go_ret
         exact ⟨by first | rfl | (simp [errW_none, errW_some] <;> rfl) | (simp [*, errW_none, errW_some] <;> rfl), HB_⟩
       rw [if_pos c14] at H
       have c14b0 : decide (x5_2 < (l0_1.length : Int)) = true := decide_eq_true c14
       clear c14
       replace H := yes_ H
       obtain ⟨c15, H⟩ := H
       have c15b0 : decide (0 ≤ x5_2) = true := decide_eq_true c15
       clear c15
       replace H := yes_ H
       obtain ⟨c16, H⟩ := H
       have c16b0 : decide (x5_2 < (l1_1.length : Int)) = true := decide_eq_true c16
       clear c16
       by_cases c17 : (rd l0_1 x5_2) = (rd l1_1 x5_2)
       rotate_left
       · rw [if_neg c17] at H
         have c17b0 : ((rd l0_1 x5_2) == (rd l1_1 x5_2)) = false := beq_eq_false_iff_ne.mpr c17
         have c17b1 : ((rd l0_1 x5_2) != (rd l1_1 x5_2)) = true := bne_iff_ne.mpr c17
         obtain rfl := Option.some.inj H
         have hnb21 := NB326_327.out
         have hnc21 := NB327_326.out
         obtain ⟨hcz22_0, hcz22_1, hfz22_0, hfz22_1⟩ := cz2_ BK326
         have p328 : 0 ≤ (x5_2 : Int) := of_decide_eq_true (by first | (with_reducible assumption) | assumption)
         have q328 : x5_2 < (l0_1.length : Int) := of_decide_eq_true (by first | (with_reducible assumption) | assumption)
         obtain ⟨ad328, e328, hx328_0⟩ := Kd.at_int HR0_1.out x5_2 p328 q328
         cases e328
         first | (replace hx328_0 := (HB.out.cell (World.block_lt_of_cell? w _ hx328_0)).trans hx328_0) | skip
         replace p328 := eq_true p328
         replace q328 := eq_true q328
         obtain ⟨hcz23_0, hcz23_1, hfz23_0, hfz23_1⟩ := cz2_ BK327
         have p329 : 0 ≤ (x5_2 : Int) := of_decide_eq_true (by first | (with_reducible assumption) | assumption)
         have q329 : x5_2 < (l1_1.length : Int) := of_decide_eq_true (by first | (with_reducible assumption) | assumption)
         obtain ⟨ad329, e329, hx329_0⟩ := Kd.at_int HR1_1.out x5_2 p329 q329
         cases e329
         first | (replace hx329_0 := (HB.out.cell (World.block_lt_of_cell? w _ hx329_0)).trans hx329_0) | skip
         replace p329 := eq_true p329
         replace q329 := eq_true q329
         go_wp2
         repeat (go_quiet (fail); try go_wp2)
         go_ret
         exact ⟨by first | rfl | (simp [errW_none, errW_some] <;> rfl) | (simp [*, errW_none, errW_some] <;> rfl), HB_⟩
       rw [if_pos c17] at H
       have c17b0 : ((rd l0_1 x5_2) == (rd l1_1 x5_2)) = true := beq_iff_eq.mpr c17
       have c17b1 : ((rd l0_1 x5_2) != (rd l1_1 x5_2)) = false := bne_eq_false_iff_eq.mpr c17
       clear c17
       have H' := Aside0.mk H
       clear H
       have hnb18 := NB326_327.out
       have hnc18 := NB327_326.out
       obtain ⟨hcz19_0, hcz19_1, hfz19_0, hfz19_1⟩ := cz2_ BK326
       have p328 : 0 ≤ (x5_2 : Int) := of_decide_eq_true (by first | (with_reducible assumption) | assumption)
       have q328 : x5_2 < (l0_1.length : Int) := of_decide_eq_true (by first | (with_reducible assumption) | assumption)
       obtain ⟨ad328, e328, hx328_0⟩ := Kd.at_int HR0_1.out x5_2 p328 q328
       cases e328
       first | (replace hx328_0 := (HB.out.cell (World.block_lt_of_cell? w _ hx328_0)).trans hx328_0) | skip
       replace p328 := eq_true p328
       replace q328 := eq_true q328
       obtain ⟨hcz20_0, hcz20_1, hfz20_0, hfz20_1⟩ := cz2_ BK327
       have p329 : 0 ≤ (x5_2 : Int) := of_decide_eq_true (by first | (with_reducible assumption) | assumption)
       have q329 : x5_2 < (l1_1.length : Int) := of_decide_eq_true (by first | (with_reducible assumption) | assumption)
       obtain ⟨ad329, e329, hx329_0⟩ := Kd.at_int HR1_1.out x5_2 p329 q329
       cases e329
       first | (replace hx329_0 := (HB.out.cell (World.block_lt_of_cell? w _ hx329_0)).trans hx329_0) | skip
       replace p329 := eq_true p329
       replace q329 := eq_true q329
       go_wp2
       repeat (go_quiet (fail); try go_wp2)
       go_roundg k2
       case measure => have := HJ2.out; have := HK2.out; omega
       case rel => exact ⟨(wrap64 (x5_2 + 1)), (by first | rfl | (simp; done) | (simp [*]; done)), H', ⟨by have := HJ2.out; have := HK2.out; omega⟩, ⟨by (with_reducible repeat (first | refine blk_drewN ?_ _ | refine blk_drew ?_ | refine blk_alloc ?_ _)); exact BK326.out⟩, ⟨by (with_reducible repeat (first | refine blk_drewN ?_ _ | refine blk_drew ?_ | refine blk_alloc ?_ _)); exact BK327.out⟩, ⟨HB_⟩⟩
def post_May.f (k : Nat) (a0_0 : Int) (l0_1 : List Int) (a1_0 : Int) (a1_1 : Int) (a1_2 : Int) (a1_3 : Int) (a1_4 : Int) : Option (Bool) := (post_Fault.f k a0_0 l0_1 a1_0 a1_1 a1_2 a1_3 a1_4).bind fun bt332 => (if bt332.2.2 = 0 then (some (decide ((bt332.2.1.length : Int) > 0))) else (some false))
theorem post_May.mono : ∀ a0 a1 a2 a3 a4 a5 a6 k, LeO (post_May.f k a0 a1 a2 a3 a4 a5 a6) (post_May.f (k + 1) a0 a1 a2 a3 a4 a5 a6) := by
 intro a0 a1 a2 a3 a4 a5 a6 k
 unfold post_May.f
 repeat' first
  | (with_reducible exact post_Fault.mono _ _ _ _ _ _ _ _)
  | (with_reducible exact LeO.refl _)
  | (with_reducible exact LeO.none _)
  | (with_reducible refine LeO.ite ?_ ?_)
  | (with_reducible refine LeO.bind ?_ (fun _ => ?_))
  | exact post_Fault.mono _ _ _ _ _ _ _ _
  | exact LeO.none _
  | refine LeO.ite ?_ ?_
  | refine LeO.bind ?_ (fun _ => ?_)
set_option maxHeartbeats 8000000 in
set_option maxRecDepth 100000 in
theorem post_May.calls (k : Nat) (a0_0 : Int) (A0_1 : Option Addr) (c0_1 : Nat) (l0_1 : List Int) (a1_0 : Int) (a1_1 : Int) (a1_2 : Int) (a1_3 : Int) (a1_4 : Int) (r : Bool) (w : World) (hr0_1 : Kd.C (Kd.int .i64) w A0_1 l0_1.length l0_1) (hc0_1 : l0_1.length ≤ c0_1) (h : post_May.f k a0_0 l0_1 a1_0 a1_1 a1_2 a1_3 a1_4 = some r) :
   Calls Try.prog 18 #[.agg #[.int .i64 a0_0, .slice A0_1 l0_1.length c0_1], .agg #[.int .i64 a1_0, .int .i64 a1_1, .int .i64 a1_2, .int .i64 a1_3, .int .i64 a1_4]] w fun e w' => e = .returned (.bool r) ∧ Below w.heap.size w w' := by
 have hu24 := Try.underlying24
 have hu26 := Try.underlying26
 have HR0_1 := Aside0.mk hr0_1
 have HC0_1 := Aside0.mk hc0_1
 clear hr0_1 hc0_1
 have HB := Aside0.mk (Below.refl w.heap.size w)
 have H : ((post_Fault.f k a0_0 l0_1 a1_0 a1_1 a1_2 a1_3 a1_4).bind fun bt332 => (if bt332.2.2 = 0 then (some (decide ((bt332.2.1.length : Int) > 0))) else (some false))) = some r := h
 clear h
 replace H := bd_ H
 obtain ⟨⟨t332, t333, t336⟩, A3, H⟩ := H
 (try dsimp only at H)
 by_cases c4 : t336 = 0
 rotate_left
 · rw [if_neg c4] at H
   have c4b0 : (t336 == 0) = false := beq_eq_false_iff_ne.mpr c4
   have c4b1 : (t336 != 0) = true := bne_iff_ne.mpr c4
   obtain rfl := Option.some.inj H
   go_enter Try.func18, Try.ntmps18
   go_wp2_with (first | ((with_reducible refine gate_dst (N := 2) rfl ?_); (try (refine gate_guard (by rfl) ?_; dsimp only)); refine bx_ (N := 2) (cs := #[.int .i64 a0_0, .slice A0_1 l0_1.length c0_1]) (t := 24) ?_; intro gb330 hg w16 hbox hb; have n_ := a_ (bs_ HB hb) (a_ (Aside0.mk hbox) (a_ (gs_ HB hg) (gs_ HB hg))); clear HB; obtain ⟨HB, BK330, GW330, GE330⟩ := n_; clear hb hbox hg) | ((with_reducible refine gate_dst (N := 3) rfl ?_); (try (refine gate_guard (by rfl) ?_; dsimp only)); refine bx_ (N := 3) (cs := #[.int .i64 a1_0, .int .i64 a1_1, .int .i64 a1_2, .int .i64 a1_3, .int .i64 a1_4]) (t := 26) ?_; intro gb331 hg w17 hbox hb; have n_ := a_ (bb_ BK330 hb) (a_ (bs_ HB hb) (a_ (Aside0.mk hbox) (a_ (gs_ HB hg) (a_ (gs_ HB hg) (a_ (nl_ BK330 hg) (ng_ BK330 hg)))))); clear BK330 HB; obtain ⟨BK330, HB, BK331, GW331, GE331, NB330_331, NB331_330⟩ := n_; clear hb hbox hg; have hnb18 := NB330_331.out; have hnc18 := NB331_330.out; obtain ⟨hcz19_0, hcz19_1, hfz19_0, hfz19_1⟩ := cz2_ BK330; obtain ⟨hcz20_0, hcz20_1, hcz20_2, hcz20_3, hcz20_4, hfz20_0, hfz20_1, hfz20_2, hfz20_3, hfz20_4⟩ := cz5_ BK331) | ((with_reducible refine gate_callee (f := 16) rfl ?_); refine goesL_ (some 10) rfl rfl Try.func16 (by kernel_rfl) rfl #[.agg #[.int .i64 a0_0, .slice A0_1 l0_1.length c0_1], .agg #[.int .i64 a1_0, .int .i64 a1_1, .int .i64 a1_2, .int .i64 a1_3, .int .i64 a1_4]] rfl MP_ ?_; (with_reducible refine (post_Fault.calls k a0_0 _ _ l0_1 a1_0 a1_1 a1_2 a1_3 a1_4 t332 t333 t336 _ ?side1 ?side2 A3.out).mono ?_); (case side1 => exact sd_ (Kd.C_below HR0_1.out HB.out)); (case side2 => exact HC0_1.out); rintro e w21 ⟨v334, rfl, ho0, hb⟩; refine ⟨_, rfl, ?_⟩; have n_ := a_ (Aside0.mk (Kd.R_lower ho0 (below_size HB_))) (a_ (bb_ BK330 hb) (a_ (bb_ BK331 hb) (bs_ HB hb))); clear BK330 BK331 HB; obtain ⟨HO335, BK330, BK331, HB⟩ := n_; (try clear hb); (try clear hb2); (try clear hk); (try clear hi); (try clear ho0)) | ((with_reducible refine gate_dst (N := 5) rfl ?_); (try (refine gate_guard (by rfl) ?_; dsimp only)); refine bx_ (N := 5) (cs := #[.int .i64 0, .slice none 0 0]) (t := 24) ?_; intro gb337 hg w22 hbox hb; have n_ := a_ (rb_ HO335 hb) (a_ (bb_ BK330 hb) (a_ (bb_ BK331 hb) (a_ (bs_ HB hb) (a_ (Aside0.mk hbox) (a_ (gs_ HB hg) (a_ (gs_ HB hg) (a_ (nl_ BK330 hg) (a_ (ng_ BK330 hg) (a_ (nl_ BK331 hg) (ng_ BK331 hg)))))))))); clear HO335 BK330 BK331 HB; obtain ⟨HO335, BK330, BK331, HB, BK337, GW337, GE337, NB330_337, NB337_330, NB331_337, NB337_331⟩ := n_; clear hb hbox hg; have hnb23 := NB337_330.out; have hnc23 := NB330_337.out; have hnb24 := NB337_331.out; have hnc24 := NB331_337.out; obtain ⟨hcz25_0, hcz25_1, hfz25_0, hfz25_1⟩ := cz2_ BK337; obtain ⟨Ao26, co26, eo26⟩ := Kd.R_slice HO335.out; subst eo26))
   go_ret
   exact ⟨by first | rfl | (simp [errW_none, errW_some] <;> rfl) | (simp [*, errW_none, errW_some] <;> rfl), HB_⟩
 rw [if_pos c4] at H
 have c4b0 : (t336 == 0) = true := beq_iff_eq.mpr c4
 have c4b1 : (t336 != 0) = false := bne_eq_false_iff_eq.mpr c4
 clear c4
 obtain rfl := Option.some.inj H
 go_enter Try.func18, Try.ntmps18
 go_wp2_with (first | ((with_reducible refine gate_dst (N := 2) rfl ?_); (try (refine gate_guard (by rfl) ?_; dsimp only)); refine bx_ (N := 2) (cs := #[.int .i64 a0_0, .slice A0_1 l0_1.length c0_1]) (t := 24) ?_; intro gb330 hg w5 hbox hb; have n_ := a_ (bs_ HB hb) (a_ (Aside0.mk hbox) (a_ (gs_ HB hg) (gs_ HB hg))); clear HB; obtain ⟨HB, BK330, GW330, GE330⟩ := n_; clear hb hbox hg) | ((with_reducible refine gate_dst (N := 3) rfl ?_); (try (refine gate_guard (by rfl) ?_; dsimp only)); refine bx_ (N := 3) (cs := #[.int .i64 a1_0, .int .i64 a1_1, .int .i64 a1_2, .int .i64 a1_3, .int .i64 a1_4]) (t := 26) ?_; intro gb331 hg w6 hbox hb; have n_ := a_ (bb_ BK330 hb) (a_ (bs_ HB hb) (a_ (Aside0.mk hbox) (a_ (gs_ HB hg) (a_ (gs_ HB hg) (a_ (nl_ BK330 hg) (ng_ BK330 hg)))))); clear BK330 HB; obtain ⟨BK330, HB, BK331, GW331, GE331, NB330_331, NB331_330⟩ := n_; clear hb hbox hg; have hnb7 := NB330_331.out; have hnc7 := NB331_330.out; obtain ⟨hcz8_0, hcz8_1, hfz8_0, hfz8_1⟩ := cz2_ BK330; obtain ⟨hcz9_0, hcz9_1, hcz9_2, hcz9_3, hcz9_4, hfz9_0, hfz9_1, hfz9_2, hfz9_3, hfz9_4⟩ := cz5_ BK331) | ((with_reducible refine gate_callee (f := 16) rfl ?_); refine goesL_ (some 10) rfl rfl Try.func16 (by kernel_rfl) rfl #[.agg #[.int .i64 a0_0, .slice A0_1 l0_1.length c0_1], .agg #[.int .i64 a1_0, .int .i64 a1_1, .int .i64 a1_2, .int .i64 a1_3, .int .i64 a1_4]] rfl MP_ ?_; (with_reducible refine (post_Fault.calls k a0_0 _ _ l0_1 a1_0 a1_1 a1_2 a1_3 a1_4 t332 t333 t336 _ ?side1 ?side2 A3.out).mono ?_); (case side1 => exact sd_ (Kd.C_below HR0_1.out HB.out)); (case side2 => exact HC0_1.out); rintro e w10 ⟨v334, rfl, ho0, hb⟩; refine ⟨_, rfl, ?_⟩; have n_ := a_ (Aside0.mk (Kd.R_lower ho0 (below_size HB_))) (a_ (bb_ BK330 hb) (a_ (bb_ BK331 hb) (bs_ HB hb))); clear BK330 BK331 HB; obtain ⟨HO335, BK330, BK331, HB⟩ := n_; (try clear hb); (try clear hb2); (try clear hk); (try clear hi); (try clear ho0)) | ((with_reducible refine gate_dst (N := 5) rfl ?_); (try (refine gate_guard (by rfl) ?_; dsimp only)); refine bx_ (N := 5) (cs := #[.int .i64 0, .slice none 0 0]) (t := 24) ?_; intro gb337 hg w11 hbox hb; have n_ := a_ (rb_ HO335 hb) (a_ (bb_ BK330 hb) (a_ (bb_ BK331 hb) (a_ (bs_ HB hb) (a_ (Aside0.mk hbox) (a_ (gs_ HB hg) (a_ (gs_ HB hg) (a_ (nl_ BK330 hg) (a_ (ng_ BK330 hg) (a_ (nl_ BK331 hg) (ng_ BK331 hg)))))))))); clear HO335 BK330 BK331 HB; obtain ⟨HO335, BK330, BK331, HB, BK337, GW337, GE337, NB330_337, NB337_330, NB331_337, NB337_331⟩ := n_; clear hb hbox hg; have hnb12 := NB337_330.out; have hnc12 := NB330_337.out; have hnb13 := NB337_331.out; have hnc13 := NB331_337.out; obtain ⟨hcz14_0, hcz14_1, hfz14_0, hfz14_1⟩ := cz2_ BK337; obtain ⟨Ao15, co15, eo15⟩ := Kd.R_slice HO335.out; subst eo15))
 go_ret
 exact ⟨by first | rfl | (simp [errW_none, errW_some] <;> rfl) | (simp [*, errW_none, errW_some] <;> rfl), HB_⟩
def post_Must.f (k : Nat) (a0_0 : Int) (l0_1 : List Int) (a1_0 : Int) (a1_1 : Int) (a1_2 : Int) (a1_3 : Int) (a1_4 : Int) : Option (Bool) := (post_Fault.f k a0_0 l0_1 a1_0 a1_1 a1_2 a1_3 a1_4).bind fun bt340 => (if bt340.2.2 = 0 then (if (bt340.2.1.length : Int) > 0 then ((dbm_Same.f k bt340.1 bt340.2.1 a0_0 l0_1).bind fun t346 => (some t346)) else (some false)) else (some false))
theorem post_Must.mono : ∀ a0 a1 a2 a3 a4 a5 a6 k, LeO (post_Must.f k a0 a1 a2 a3 a4 a5 a6) (post_Must.f (k + 1) a0 a1 a2 a3 a4 a5 a6) := by
 intro a0 a1 a2 a3 a4 a5 a6 k
 unfold post_Must.f
 repeat' first
  | (with_reducible exact dbm_Same.mono _ _ _ _ _)
  | (with_reducible exact post_Fault.mono _ _ _ _ _ _ _ _)
  | (with_reducible exact LeO.refl _)
  | (with_reducible exact LeO.none _)
  | (with_reducible refine LeO.ite ?_ ?_)
  | (with_reducible refine LeO.bind ?_ (fun _ => ?_))
  | exact dbm_Same.mono _ _ _ _ _
  | exact post_Fault.mono _ _ _ _ _ _ _ _
  | exact LeO.none _
  | refine LeO.ite ?_ ?_
  | refine LeO.bind ?_ (fun _ => ?_)
set_option maxHeartbeats 8000000 in
set_option maxRecDepth 100000 in
theorem post_Must.calls (k : Nat) (a0_0 : Int) (A0_1 : Option Addr) (c0_1 : Nat) (l0_1 : List Int) (a1_0 : Int) (a1_1 : Int) (a1_2 : Int) (a1_3 : Int) (a1_4 : Int) (r : Bool) (w : World) (hr0_1 : Kd.C (Kd.int .i64) w A0_1 l0_1.length l0_1) (hc0_1 : l0_1.length ≤ c0_1) (h : post_Must.f k a0_0 l0_1 a1_0 a1_1 a1_2 a1_3 a1_4 = some r) :
   Calls Try.prog 19 #[.agg #[.int .i64 a0_0, .slice A0_1 l0_1.length c0_1], .agg #[.int .i64 a1_0, .int .i64 a1_1, .int .i64 a1_2, .int .i64 a1_3, .int .i64 a1_4]] w fun e w' => e = .returned (.bool r) ∧ Below w.heap.size w w' := by
 have hu24 := Try.underlying24
 have hu26 := Try.underlying26
 have HR0_1 := Aside0.mk hr0_1
 have HC0_1 := Aside0.mk hc0_1
 clear hr0_1 hc0_1
 have HB := Aside0.mk (Below.refl w.heap.size w)
 have H : ((post_Fault.f k a0_0 l0_1 a1_0 a1_1 a1_2 a1_3 a1_4).bind fun bt340 => (if bt340.2.2 = 0 then (if (bt340.2.1.length : Int) > 0 then ((dbm_Same.f k bt340.1 bt340.2.1 a0_0 l0_1).bind fun t346 => (some t346)) else (some false)) else (some false))) = some r := h
 clear h
 replace H := bd_ H
 obtain ⟨⟨t340, t341, t344⟩, A3, H⟩ := H
 (try dsimp only at H)
 by_cases c4 : t344 = 0
 rotate_left
 · rw [if_neg c4] at H
   have c4b0 : (t344 == 0) = false := beq_eq_false_iff_ne.mpr c4
   have c4b1 : (t344 != 0) = true := bne_iff_ne.mpr c4
   obtain rfl := Option.some.inj H
   go_enter Try.func19, Try.ntmps19
   go_wp2_with (first | ((with_reducible refine gate_dst (N := 2) rfl ?_); (try (refine gate_guard (by rfl) ?_; dsimp only)); refine bx_ (N := 2) (cs := #[.int .i64 a0_0, .slice A0_1 l0_1.length c0_1]) (t := 24) ?_; intro gb338 hg w31 hbox hb; have n_ := a_ (bs_ HB hb) (a_ (Aside0.mk hbox) (a_ (gs_ HB hg) (gs_ HB hg))); clear HB; obtain ⟨HB, BK338, GW338, GE338⟩ := n_; clear hb hbox hg) | ((with_reducible refine gate_dst (N := 3) rfl ?_); (try (refine gate_guard (by rfl) ?_; dsimp only)); refine bx_ (N := 3) (cs := #[.int .i64 a1_0, .int .i64 a1_1, .int .i64 a1_2, .int .i64 a1_3, .int .i64 a1_4]) (t := 26) ?_; intro gb339 hg w32 hbox hb; have n_ := a_ (bb_ BK338 hb) (a_ (bs_ HB hb) (a_ (Aside0.mk hbox) (a_ (gs_ HB hg) (a_ (gs_ HB hg) (a_ (nl_ BK338 hg) (ng_ BK338 hg)))))); clear BK338 HB; obtain ⟨BK338, HB, BK339, GW339, GE339, NB338_339, NB339_338⟩ := n_; clear hb hbox hg; have hnb33 := NB338_339.out; have hnc33 := NB339_338.out; obtain ⟨hcz34_0, hcz34_1, hfz34_0, hfz34_1⟩ := cz2_ BK338; obtain ⟨hcz35_0, hcz35_1, hcz35_2, hcz35_3, hcz35_4, hfz35_0, hfz35_1, hfz35_2, hfz35_3, hfz35_4⟩ := cz5_ BK339) | ((with_reducible refine gate_callee (f := 16) rfl ?_); refine goesL_ (some 10) rfl rfl Try.func16 (by kernel_rfl) rfl #[.agg #[.int .i64 a0_0, .slice A0_1 l0_1.length c0_1], .agg #[.int .i64 a1_0, .int .i64 a1_1, .int .i64 a1_2, .int .i64 a1_3, .int .i64 a1_4]] rfl MP_ ?_; (with_reducible refine (post_Fault.calls k a0_0 _ _ l0_1 a1_0 a1_1 a1_2 a1_3 a1_4 t340 t341 t344 _ ?side1 ?side2 A3.out).mono ?_); (case side1 => exact sd_ (Kd.C_below HR0_1.out HB.out)); (case side2 => exact HC0_1.out); rintro e w36 ⟨v342, rfl, ho0, hb⟩; refine ⟨_, rfl, ?_⟩; have n_ := a_ (Aside0.mk (Kd.R_lower ho0 (below_size HB_))) (a_ (bb_ BK338 hb) (a_ (bb_ BK339 hb) (bs_ HB hb))); clear BK338 BK339 HB; obtain ⟨HO343, BK338, BK339, HB⟩ := n_; (try clear hb); (try clear hb2); (try clear hk); (try clear hi); (try clear ho0)) | ((with_reducible refine gate_dst (N := 5) rfl ?_); (try (refine gate_guard (by rfl) ?_; dsimp only)); refine bx_ (N := 5) (cs := #[.int .i64 0, .slice none 0 0]) (t := 24) ?_; intro gb345 hg w37 hbox hb; have n_ := a_ (rb_ HO343 hb) (a_ (bb_ BK338 hb) (a_ (bb_ BK339 hb) (a_ (bs_ HB hb) (a_ (Aside0.mk hbox) (a_ (gs_ HB hg) (a_ (gs_ HB hg) (a_ (nl_ BK338 hg) (a_ (ng_ BK338 hg) (a_ (nl_ BK339 hg) (ng_ BK339 hg)))))))))); clear HO343 BK338 BK339 HB; obtain ⟨HO343, BK338, BK339, HB, BK345, GW345, GE345, NB338_345, NB345_338, NB339_345, NB345_339⟩ := n_; clear hb hbox hg; have hnb38 := NB345_338.out; have hnc38 := NB338_345.out; have hnb39 := NB345_339.out; have hnc39 := NB339_345.out; obtain ⟨hcz40_0, hcz40_1, hfz40_0, hfz40_1⟩ := cz2_ BK345; obtain ⟨Ao41, co41, eo41⟩ := Kd.R_slice HO343.out; subst eo41))
   go_ret
   exact ⟨by first | rfl | (simp [errW_none, errW_some] <;> rfl) | (simp [*, errW_none, errW_some] <;> rfl), HB_⟩
 rw [if_pos c4] at H
 have c4b0 : (t344 == 0) = true := beq_iff_eq.mpr c4
 have c4b1 : (t344 != 0) = false := bne_eq_false_iff_eq.mpr c4
 clear c4
 by_cases c5 : (t341.length : Int) > 0
 rotate_left
 · rw [if_neg c5] at H
   have c5b0 : decide (0 < (t341.length : Int)) = false := decide_eq_false c5
   have c5b1 : decide (0 < t341.length) = false := decide_eq_false (by omega)
   clear c5
   obtain rfl := Option.some.inj H
   go_enter Try.func19, Try.ntmps19
   go_wp2_with (first | ((with_reducible refine gate_dst (N := 2) rfl ?_); (try (refine gate_guard (by rfl) ?_; dsimp only)); refine bx_ (N := 2) (cs := #[.int .i64 a0_0, .slice A0_1 l0_1.length c0_1]) (t := 24) ?_; intro gb338 hg w20 hbox hb; have n_ := a_ (bs_ HB hb) (a_ (Aside0.mk hbox) (a_ (gs_ HB hg) (gs_ HB hg))); clear HB; obtain ⟨HB, BK338, GW338, GE338⟩ := n_; clear hb hbox hg) | ((with_reducible refine gate_dst (N := 3) rfl ?_); (try (refine gate_guard (by rfl) ?_; dsimp only)); refine bx_ (N := 3) (cs := #[.int .i64 a1_0, .int .i64 a1_1, .int .i64 a1_2, .int .i64 a1_3, .int .i64 a1_4]) (t := 26) ?_; intro gb339 hg w21 hbox hb; have n_ := a_ (bb_ BK338 hb) (a_ (bs_ HB hb) (a_ (Aside0.mk hbox) (a_ (gs_ HB hg) (a_ (gs_ HB hg) (a_ (nl_ BK338 hg) (ng_ BK338 hg)))))); clear BK338 HB; obtain ⟨BK338, HB, BK339, GW339, GE339, NB338_339, NB339_338⟩ := n_; clear hb hbox hg; have hnb22 := NB338_339.out; have hnc22 := NB339_338.out; obtain ⟨hcz23_0, hcz23_1, hfz23_0, hfz23_1⟩ := cz2_ BK338; obtain ⟨hcz24_0, hcz24_1, hcz24_2, hcz24_3, hcz24_4, hfz24_0, hfz24_1, hfz24_2, hfz24_3, hfz24_4⟩ := cz5_ BK339) | ((with_reducible refine gate_callee (f := 16) rfl ?_); refine goesL_ (some 10) rfl rfl Try.func16 (by kernel_rfl) rfl #[.agg #[.int .i64 a0_0, .slice A0_1 l0_1.length c0_1], .agg #[.int .i64 a1_0, .int .i64 a1_1, .int .i64 a1_2, .int .i64 a1_3, .int .i64 a1_4]] rfl MP_ ?_; (with_reducible refine (post_Fault.calls k a0_0 _ _ l0_1 a1_0 a1_1 a1_2 a1_3 a1_4 t340 t341 t344 _ ?side1 ?side2 A3.out).mono ?_); (case side1 => exact sd_ (Kd.C_below HR0_1.out HB.out)); (case side2 => exact HC0_1.out); rintro e w25 ⟨v342, rfl, ho0, hb⟩; refine ⟨_, rfl, ?_⟩; have n_ := a_ (Aside0.mk (Kd.R_lower ho0 (below_size HB_))) (a_ (bb_ BK338 hb) (a_ (bb_ BK339 hb) (bs_ HB hb))); clear BK338 BK339 HB; obtain ⟨HO343, BK338, BK339, HB⟩ := n_; (try clear hb); (try clear hb2); (try clear hk); (try clear hi); (try clear ho0)) | ((with_reducible refine gate_dst (N := 5) rfl ?_); (try (refine gate_guard (by rfl) ?_; dsimp only)); refine bx_ (N := 5) (cs := #[.int .i64 0, .slice none 0 0]) (t := 24) ?_; intro gb345 hg w26 hbox hb; have n_ := a_ (rb_ HO343 hb) (a_ (bb_ BK338 hb) (a_ (bb_ BK339 hb) (a_ (bs_ HB hb) (a_ (Aside0.mk hbox) (a_ (gs_ HB hg) (a_ (gs_ HB hg) (a_ (nl_ BK338 hg) (a_ (ng_ BK338 hg) (a_ (nl_ BK339 hg) (ng_ BK339 hg)))))))))); clear HO343 BK338 BK339 HB; obtain ⟨HO343, BK338, BK339, HB, BK345, GW345, GE345, NB338_345, NB345_338, NB339_345, NB345_339⟩ := n_; clear hb hbox hg; have hnb27 := NB345_338.out; have hnc27 := NB338_345.out; have hnb28 := NB345_339.out; have hnc28 := NB339_345.out; obtain ⟨hcz29_0, hcz29_1, hfz29_0, hfz29_1⟩ := cz2_ BK345; obtain ⟨Ao30, co30, eo30⟩ := Kd.R_slice HO343.out; subst eo30))
   go_ret
   exact ⟨by first | rfl | (simp [errW_none, errW_some] <;> rfl) | (simp [*, errW_none, errW_some] <;> rfl), HB_⟩
 rw [if_pos c5] at H
 have c5b0 : decide (0 < (t341.length : Int)) = true := decide_eq_true c5
 have c5b1 : decide (0 < t341.length) = true := decide_eq_true (by omega)
 clear c5
 replace H := bd_ H
 obtain ⟨t346, A6, H⟩ := H
 (try dsimp only at H)
 obtain rfl := Option.some.inj H
 go_enter Try.func19, Try.ntmps19
 go_wp2_with (first | ((with_reducible refine gate_dst (N := 2) rfl ?_); (try (refine gate_guard (by rfl) ?_; dsimp only)); refine bx_ (N := 2) (cs := #[.int .i64 a0_0, .slice A0_1 l0_1.length c0_1]) (t := 24) ?_; intro gb338 hg w7 hbox hb; have n_ := a_ (bs_ HB hb) (a_ (Aside0.mk hbox) (a_ (gs_ HB hg) (gs_ HB hg))); clear HB; obtain ⟨HB, BK338, GW338, GE338⟩ := n_; clear hb hbox hg) | ((with_reducible refine gate_dst (N := 3) rfl ?_); (try (refine gate_guard (by rfl) ?_; dsimp only)); refine bx_ (N := 3) (cs := #[.int .i64 a1_0, .int .i64 a1_1, .int .i64 a1_2, .int .i64 a1_3, .int .i64 a1_4]) (t := 26) ?_; intro gb339 hg w8 hbox hb; have n_ := a_ (bb_ BK338 hb) (a_ (bs_ HB hb) (a_ (Aside0.mk hbox) (a_ (gs_ HB hg) (a_ (gs_ HB hg) (a_ (nl_ BK338 hg) (ng_ BK338 hg)))))); clear BK338 HB; obtain ⟨BK338, HB, BK339, GW339, GE339, NB338_339, NB339_338⟩ := n_; clear hb hbox hg; have hnb9 := NB338_339.out; have hnc9 := NB339_338.out; obtain ⟨hcz10_0, hcz10_1, hfz10_0, hfz10_1⟩ := cz2_ BK338; obtain ⟨hcz11_0, hcz11_1, hcz11_2, hcz11_3, hcz11_4, hfz11_0, hfz11_1, hfz11_2, hfz11_3, hfz11_4⟩ := cz5_ BK339) | ((with_reducible refine gate_callee (f := 16) rfl ?_); refine goesL_ (some 10) rfl rfl Try.func16 (by kernel_rfl) rfl #[.agg #[.int .i64 a0_0, .slice A0_1 l0_1.length c0_1], .agg #[.int .i64 a1_0, .int .i64 a1_1, .int .i64 a1_2, .int .i64 a1_3, .int .i64 a1_4]] rfl MP_ ?_; (with_reducible refine (post_Fault.calls k a0_0 _ _ l0_1 a1_0 a1_1 a1_2 a1_3 a1_4 t340 t341 t344 _ ?side1 ?side2 A3.out).mono ?_); (case side1 => exact sd_ (Kd.C_below HR0_1.out HB.out)); (case side2 => exact HC0_1.out); rintro e w12 ⟨v342, rfl, ho0, hb⟩; refine ⟨_, rfl, ?_⟩; have n_ := a_ (Aside0.mk (Kd.R_lower ho0 (below_size HB_))) (a_ (bb_ BK338 hb) (a_ (bb_ BK339 hb) (bs_ HB hb))); clear BK338 BK339 HB; obtain ⟨HO343, BK338, BK339, HB⟩ := n_; (try clear hb); (try clear hb2); (try clear hk); (try clear hi); (try clear ho0)) | ((with_reducible refine gate_dst (N := 5) rfl ?_); (try (refine gate_guard (by rfl) ?_; dsimp only)); refine bx_ (N := 5) (cs := #[.int .i64 0, .slice none 0 0]) (t := 24) ?_; intro gb345 hg w13 hbox hb; have n_ := a_ (rb_ HO343 hb) (a_ (bb_ BK338 hb) (a_ (bb_ BK339 hb) (a_ (bs_ HB hb) (a_ (Aside0.mk hbox) (a_ (gs_ HB hg) (a_ (gs_ HB hg) (a_ (nl_ BK338 hg) (a_ (ng_ BK338 hg) (a_ (nl_ BK339 hg) (ng_ BK339 hg)))))))))); clear HO343 BK338 BK339 HB; obtain ⟨HO343, BK338, BK339, HB, BK345, GW345, GE345, NB338_345, NB345_338, NB339_345, NB345_339⟩ := n_; clear hb hbox hg; have hnb14 := NB345_338.out; have hnc14 := NB338_345.out; have hnb15 := NB345_339.out; have hnc15 := NB339_345.out; obtain ⟨hcz16_0, hcz16_1, hfz16_0, hfz16_1⟩ := cz2_ BK345; obtain ⟨Ao17, co17, eo17⟩ := Kd.R_slice HO343.out; subst eo17; obtain ⟨hcz18_0, hcz18_1, hfz18_0, hfz18_1⟩ := cz2_ BK338) | (go_at_call 63; (with_reducible refine (dbm_Same.calls k t340 _ _ t341 a0_0 _ _ l0_1 t346 _ ?side1 ?side2 ?side3 ?side4 A6.out).mono ?_); (case side1 => refine (Kd.R_reads' (e := 3) (base := w.heap.size) (ok := fun k_ => True) (n := t341.length) (c := co17) ?_).2.2; exact (rd_ (rf2_ HO343 BK345 (.int .i64 t340) (.slice Ao17 t341.length co17)))); (case side2 => exact (Kd.R_reads' HO343.out).2.1); (case side3 => exact Kd.C_below HR0_1.out HB_); (case side4 => exact HC0_1.out); rintro e w19 ⟨rfl, hb⟩; have n_ := a_ (Aside0.mk (Kd.R_below (rd_ (rf2_ HO343 BK345 (.int .i64 t340) (.slice Ao17 t341.length co17))) hb)) (a_ (bc_ #[.int .i64 a0_0, .slice A0_1 l0_1.length c0_1] 24 BK338 hb) (a_ (bc_ #[.int .i64 a1_0, .int .i64 a1_1, .int .i64 a1_2, .int .i64 a1_3, .int .i64 a1_4] 26 BK339 hb) (a_ (bc_ #[.int .i64 t340, .slice Ao17 t341.length co17] 24 BK345 hb) (bs_ HB hb)))); clear HO343 BK338 BK339 BK345 HB; obtain ⟨HO343, BK338, BK339, BK345, HB⟩ := n_; (try clear hb); (try clear hb2); (try clear hk); (try clear hi)))
 go_ret
 exact ⟨by first | rfl | (simp [errW_none, errW_some] <;> rfl) | (simp [*, errW_none, errW_some] <;> rfl), HB_⟩
def warrantorref08_far.f (a0 : Int) (a1 : Int) : Option (Int) := if a0 = a1 then (some 0) else (if a0 = 0 then (some 1099511627776) else (if a1 = 0 then (some 1099511627776) else (some 2199023255552)))
set_option maxHeartbeats 8000000 in
set_option maxRecDepth 100000 in
theorem warrantorref08_far.calls (a0 : Int) (a1 : Int) (r : Int) (w : World) (h : warrantorref08_far.f a0 a1 = some r) :
   Calls Try.prog 115 #[.int .i64 a0, .int .i64 a1] w fun e w' => e = .returned (.int .i64 r) ∧ Drawn0 w w' := by
 have H : (if a0 = a1 then (some 0) else (if a0 = 0 then (some 1099511627776) else (if a1 = 0 then (some 1099511627776) else (some 2199023255552)))) = some r := h
 clear h
 by_cases c3 : a0 = a1
 · rw [if_pos c3] at H
   have c3b0 : (a0 == a1) = true := beq_iff_eq.mpr c3
   have c3b1 : (a0 != a1) = false := bne_eq_false_iff_eq.mpr c3
   clear c3
   obtain rfl := Option.some.inj H
   go_enter Try.func115, Try.ntmps115
   go_wp2
   go_ret
   exact ⟨by first | rfl | (simp; done) | (simp [*]; done), by repeat (first | exact Drawn0.refl _ | apply Drawn0.step)⟩
 rw [if_neg c3] at H
 have c3b0 : (a0 == a1) = false := beq_eq_false_iff_ne.mpr c3
 have c3b1 : (a0 != a1) = true := bne_iff_ne.mpr c3
 by_cases c4 : a0 = 0
 · rw [if_pos c4] at H
   have c4b0 : (a0 == 0) = true := beq_iff_eq.mpr c4
   have c4b1 : (a0 != 0) = false := bne_eq_false_iff_eq.mpr c4
   clear c4
   obtain rfl := Option.some.inj H
   go_enter Try.func115, Try.ntmps115
   go_wp2
   go_ret
   exact ⟨by first | rfl | (simp; done) | (simp [*]; done), by repeat (first | exact Drawn0.refl _ | apply Drawn0.step)⟩
 rw [if_neg c4] at H
 have c4b0 : (a0 == 0) = false := beq_eq_false_iff_ne.mpr c4
 have c4b1 : (a0 != 0) = true := bne_iff_ne.mpr c4
 by_cases c5 : a1 = 0
 rotate_left
 · rw [if_neg c5] at H
   have c5b0 : (a1 == 0) = false := beq_eq_false_iff_ne.mpr c5
   have c5b1 : (a1 != 0) = true := bne_iff_ne.mpr c5
   obtain rfl := Option.some.inj H
   go_enter Try.func115, Try.ntmps115
   go_wp2
   go_ret
   exact ⟨by first | rfl | (simp; done) | (simp [*]; done), by repeat (first | exact Drawn0.refl _ | apply Drawn0.step)⟩
 rw [if_pos c5] at H
 have c5b0 : (a1 == 0) = true := beq_iff_eq.mpr c5
 have c5b1 : (a1 != 0) = false := bne_eq_false_iff_eq.mpr c5
 clear c5
 obtain rfl := Option.some.inj H
 go_enter Try.func115, Try.ntmps115
 go_wp2
 go_ret
 exact ⟨by first | rfl | (simp; done) | (simp [*]; done), by repeat (first | exact Drawn0.refl _ | apply Drawn0.step)⟩
mutual
def warrantorref08_clip.l0 : Nat → Int → List Int → List Int → Int → Option (List Int)
 | 0, _, _, _, _ => none
 | k + 1, x0, x1, x5, x6 => if x6 ≤ x0 then (warrantorref08_clip.l1 k x0 x1 x5 x6 0) else (some x5)
def warrantorref08_clip.l1 : Nat → Int → List Int → List Int → Int → Int → Option (List Int)
 | 0, _, _, _, _, _ => none
 | k + 1, x0, x1, x5, x6, x7 => if x7 ≤ x0 then (if 0 ≤ (wrap64 ((wrap64 (x6 * (wrap64 (x0 + 1)))) + x7)) then (if (wrap64 ((wrap64 (x6 * (wrap64 (x0 + 1)))) + x7)) < (x1.length : Int) then ((warrantorref08_far.f x6 x7).bind fun t348 => (if (rd x1 (wrap64 ((wrap64 (x6 * (wrap64 (x0 + 1)))) + x7))) > t348 then ((warrantorref08_far.f x6 x7).bind fun t349 => (if t349 < (-2199023255553) then (if x5.length < 17592186044416 then (warrantorref08_clip.l1 k x0 x1 (x5 ++ [(-2199023255553)]) x6 (wrap64 (x7 + 1))) else (none)) else (if x5.length < 17592186044416 then (warrantorref08_clip.l1 k x0 x1 (x5 ++ [t349]) x6 (wrap64 (x7 + 1))) else (none)))) else (if (rd x1 (wrap64 ((wrap64 (x6 * (wrap64 (x0 + 1)))) + x7))) < (-2199023255553) then (if x5.length < 17592186044416 then (warrantorref08_clip.l1 k x0 x1 (x5 ++ [(-2199023255553)]) x6 (wrap64 (x7 + 1))) else (none)) else (if x5.length < 17592186044416 then (warrantorref08_clip.l1 k x0 x1 (x5 ++ [rd x1 (wrap64 ((wrap64 (x6 * (wrap64 (x0 + 1)))) + x7))]) x6 (wrap64 (x7 + 1))) else (none))))) else (none)) else (none)) else (warrantorref08_clip.l0 k x0 x1 x5 (wrap64 (x6 + 1)))
end
def warrantorref08_clip.f (k : Nat) (a0 : Int) (l1 : List Int) : Option (List Int) := warrantorref08_clip.l0 k a0 l1 ([] : List Int) 0
theorem warrantorref08_clip.mono_l : ∀ k, (∀ y0 y1 y2 y3, LeO (warrantorref08_clip.l0 k y0 y1 y2 y3) (warrantorref08_clip.l0 (k + 1) y0 y1 y2 y3)) ∧ (∀ y0 y1 y2 y3 y4, LeO (warrantorref08_clip.l1 k y0 y1 y2 y3 y4) (warrantorref08_clip.l1 (k + 1) y0 y1 y2 y3 y4))
 | 0 => ⟨fun _ _ _ _ r h => by simp [warrantorref08_clip.l0] at h, fun _ _ _ _ _ r h => by simp [warrantorref08_clip.l1] at h⟩
 | k + 1 => by
  obtain ⟨ih0, ih1⟩ := warrantorref08_clip.mono_l k
  refine ⟨?_, ?_⟩
  · intro y0 y1 y2 y3
    unfold warrantorref08_clip.l0
    repeat' first
    | (with_reducible exact ih0 _ _ _ _)
    | (with_reducible exact ih1 _ _ _ _ _)
    | (with_reducible exact LeO.refl _)
    | (with_reducible exact LeO.none _)
    | (with_reducible refine LeO.ite ?_ ?_)
    | (with_reducible refine LeO.bind ?_ (fun _ => ?_))
    | exact ih0 _ _ _ _
    | exact ih1 _ _ _ _ _
    | exact LeO.none _
    | refine LeO.ite ?_ ?_
    | refine LeO.bind ?_ (fun _ => ?_)
  · intro y0 y1 y2 y3 y4
    unfold warrantorref08_clip.l1
    repeat' first
    | (with_reducible exact ih0 _ _ _ _)
    | (with_reducible exact ih1 _ _ _ _ _)
    | (with_reducible exact LeO.refl _)
    | (with_reducible exact LeO.none _)
    | (with_reducible refine LeO.ite ?_ ?_)
    | (with_reducible refine LeO.bind ?_ (fun _ => ?_))
    | exact ih0 _ _ _ _
    | exact ih1 _ _ _ _ _
    | exact LeO.none _
    | refine LeO.ite ?_ ?_
    | refine LeO.bind ?_ (fun _ => ?_)
theorem warrantorref08_clip.mono : ∀ a0 a1 k, LeO (warrantorref08_clip.f k a0 a1) (warrantorref08_clip.f (k + 1) a0 a1) := by
 intro a0 a1 k
 obtain ⟨ih0, ih1⟩ := warrantorref08_clip.mono_l k
 unfold warrantorref08_clip.f
 repeat' first
  | (with_reducible exact ih0 _ _ _ _)
  | (with_reducible exact ih1 _ _ _ _ _)
  | (with_reducible exact LeO.refl _)
  | (with_reducible exact LeO.none _)
  | (with_reducible refine LeO.ite ?_ ?_)
  | (with_reducible refine LeO.bind ?_ (fun _ => ?_))
  | exact ih0 _ _ _ _
  | exact ih1 _ _ _ _ _
  | exact LeO.none _
  | refine LeO.ite ?_ ?_
  | refine LeO.bind ?_ (fun _ => ?_)
set_option maxHeartbeats 8000000 in
set_option maxRecDepth 100000 in
theorem warrantorref08_clip.calls (k : Nat) (a0 : Int) (A1 : Option Addr) (c1 : Nat) (l1 : List Int) (r : List Int) (w : World) (hr1 : Kd.C (Kd.int .i64) w A1 l1.length l1) (hc1 : l1.length ≤ c1) (h : warrantorref08_clip.f k a0 l1 = some r) :
  Calls Try.prog 100 #[.int .i64 a0, .slice A1 l1.length c1] w fun e w' => ∃ v0_ : Value, e = .returned (v0_) ∧ Kd.R (Kd.int .i64) 3 w' w.heap.size (fun _ => True) v0_ r ∧ Below w.heap.size w w' := by
 have HR1 := Aside0.mk hr1
 have HC1 := Aside0.mk hc1
 clear hr1 hc1
 have HB := Aside0.mk (Below.refl w.heap.size w)
 have H : (warrantorref08_clip.l0 k a0 l1 ([] : List Int) 0) = some r := h
 clear h
 have H' := Aside0.mk H
 clear H
 go_enter Try.func100, Try.ntmps100
 go_wp2
 go_loopg [5, 6] k (fun kq v5 v6 w' => ∃ (x5_1 : List Int) (x6_1 : Int), v6 = .int .i64 x6_1 ∧ Aside0 (warrantorref08_clip.l0 kq a0 l1 x5_1 x6_1 = some r) ∧ Aside0 (kq ≤ k) ∧ Aside0 (Kd.R (Kd.int .i64) 3 w' w.heap.size (fun _ => True) v5 x5_1) ∧ Aside0 (Below w.heap.size w w'))
 case atStart => exact ⟨(([] : List Int)), (0), (by first | rfl | (simp; done) | (simp [*]; done)), H', ⟨Nat.le_refl _⟩, ⟨by first | exact Kd.R_nil _ _ _ _ _ | exact Kd.N_nil _ _ _ _ _ | exact Kd.V_nil _ _ _ _ _ | exact Kd.Q_nil _ _ _ _ _ | exact Kd.S_nil _ _ _ _ _⟩, ⟨HB_⟩⟩
 case round =>
  clear H'
  try clear c1
  try clear p2
  obtain ⟨x5_1, x6_1, rfl, HA, HK1, HO_5, HB⟩ := hrel
  cases gk with
  | zero => exact absurd HA.out (by simp [warrantorref08_clip.l0])
  | succ k1 =>
   have H := HA.out
   clear HA
   simp only [warrantorref08_clip.l0] at H
   by_cases c3 : x6_1 ≤ a0
   rotate_left
   · rw [if_neg c3] at H
     have c3b0 : decide (x6_1 ≤ a0) = false := decide_eq_false c3
     clear c3
     obtain rfl := Option.some.inj H
     go_wp2
     go_ret
     exact ⟨_, by first | rfl | (simp [errW_none, errW_some] <;> rfl) | (simp [*, errW_none, errW_some] <;> rfl), by (with_reducible repeat (first | apply Kd.R_alloc | apply Kd.R_drewN | apply Kd.R_drew)); exact HO_5.out, HB_⟩
   rw [if_pos c3] at H
   have c3b0 : decide (x6_1 ≤ a0) = true := decide_eq_true c3
   clear c3
   have H' := Aside0.mk H
   clear H
   go_wp2
   go_loopg [5, 7] k1 (fun kq v5 v7 w' => ∃ (x5_2 : List Int) (x7_2 : Int), v7 = .int .i64 x7_2 ∧ Aside0 (warrantorref08_clip.l1 kq a0 l1 x5_2 x6_1 x7_2 = some r) ∧ Aside0 (kq ≤ k1) ∧ Aside0 (Kd.R (Kd.int .i64) 3 w' w.heap.size (fun _ => True) v5 x5_2) ∧ Aside0 (Below w.heap.size w w'))
   case atStart => exact ⟨(x5_1), (0), (by first | rfl | (simp; done) | (simp [*]; done)), H', ⟨Nat.le_refl _⟩, ⟨by (with_reducible repeat (first | apply Kd.R_alloc | apply Kd.R_drewN | apply Kd.R_drew)); exact HO_5.out⟩, ⟨HB_⟩⟩
   case round =>
     clear H'
     try clear c1
     try clear p2
     try clear c3
     try clear c3b0
     try clear p2
     obtain ⟨x5_2, x7_2, rfl, HA, HK2, HO_5, HB⟩ := hrel
     cases gk with
     | zero => exact absurd HA.out (by simp [warrantorref08_clip.l1])
     | succ k2 =>
      have H := HA.out
      clear HA
      simp only [warrantorref08_clip.l1] at H
      by_cases c4 : x7_2 ≤ a0
      rotate_left
      · rw [if_neg c4] at H
        have c4b0 : decide (x7_2 ≤ a0) = false := decide_eq_false c4
        clear c4
        have H' := Aside0.mk H
        clear H
        go_wp2
        go_roundg k2
        case measure => have := HK1.out; have := HK2.out; omega
        case rel => exact ⟨(x5_2), (wrap64 (x6_1 + 1)), (by first | rfl | (simp; done) | (simp [*]; done)), H', ⟨by have := HK1.out; have := HK2.out; omega⟩, ⟨by (with_reducible repeat (first | apply Kd.R_alloc | apply Kd.R_drewN | apply Kd.R_drew)); exact HO_5.out⟩, ⟨HB_⟩⟩
      rw [if_pos c4] at H
      have c4b0 : decide (x7_2 ≤ a0) = true := decide_eq_true c4
      clear c4
      obtain ⟨ji5, hji5⟩ : ∃ j_ : Int, (wrap64 ((wrap64 (x6_1 * (wrap64 (a0 + 1)))) + x7_2)) = j_ := ⟨_, rfl⟩
      replace H : (if 0 ≤ (ji5) then (if (ji5) < (l1.length : Int) then ((warrantorref08_far.f x6_1 x7_2).bind fun t348 => (if (rd l1 (ji5)) > t348 then ((warrantorref08_far.f x6_1 x7_2).bind fun t349 => (if t349 < (-2199023255553) then (if x5_2.length < 17592186044416 then (warrantorref08_clip.l1 k2 a0 l1 (x5_2 ++ [(-2199023255553)]) x6_1 (wrap64 (x7_2 + 1))) else (none)) else (if x5_2.length < 17592186044416 then (warrantorref08_clip.l1 k2 a0 l1 (x5_2 ++ [t349]) x6_1 (wrap64 (x7_2 + 1))) else (none)))) else (if (rd l1 (ji5)) < (-2199023255553) then (if x5_2.length < 17592186044416 then (warrantorref08_clip.l1 k2 a0 l1 (x5_2 ++ [(-2199023255553)]) x6_1 (wrap64 (x7_2 + 1))) else (none)) else (if x5_2.length < 17592186044416 then (warrantorref08_clip.l1 k2 a0 l1 (x5_2 ++ [rd l1 (ji5)]) x6_1 (wrap64 (x7_2 + 1))) else (none))))) else (none)) else (none)) = some r := by first | (rw [hji5] at H; exact H) | (simp only [hji5] at H ⊢; exact H)
      have hji5w : (IntKind.i64.wrap ((wrap64 (x6_1 * (wrap64 (a0 + 1)))) + x7_2)) = ji5 := (i64_w _).trans hji5
      have hji5v : (IntKind.i64.wrap ((IntKind.i64.wrap (x6_1 * (IntKind.i64.wrap (a0 + 1)))) + x7_2)) = ji5 := by (try simp only [i64_w]); first | exact hji5 | exact hji5w
      replace H := yes_ H
      obtain ⟨c6, H⟩ := H
      have c6b0 : decide (0 ≤ (ji5)) = true := decide_eq_true c6
      clear c6
      replace H := yes_ H
      obtain ⟨c7, H⟩ := H
      have c7b0 : decide ((ji5) < (l1.length : Int)) = true := decide_eq_true c7
      clear c7
      replace H := bd_ H
      obtain ⟨t348, A8, H⟩ := H
      (try dsimp only at H)
      by_cases c9 : (rd l1 (ji5)) > t348
      rotate_left
      · rw [if_neg c9] at H
        have c9b0 : decide (t348 < (rd l1 (ji5))) = false := decide_eq_false c9
        clear c9
        by_cases c16 : (rd l1 (ji5)) < (-2199023255553)
        rotate_left
        · rw [if_neg c16] at H
          have c16b0 : decide ((rd l1 (ji5)) < (-2199023255553)) = false := decide_eq_false c16
          clear c16
          replace H := yes_ H
          obtain ⟨c19, H⟩ := H
          have LMc19 := Aside0.mk c19
          clear c19
          obtain ⟨y359, hy359⟩ : ∃ y_ : List Int, y_ = (x5_2 ++ [rd l1 (ji5)]) := ⟨_, rfl⟩
          replace H : (warrantorref08_clip.l1 k2 a0 l1 y359 x6_1 (wrap64 (x7_2 + 1))) = some r := by first | (rw [hy359]; with_reducible exact H) | (have H2_ := (Option.bind_some _ _).symm.trans H; rw [hy359]; with_reducible exact H2_) | (have H2_ := (Option.bind_some _ _).symm.trans H; with_reducible exact H2_) | with_reducible exact H | (rw [hy359]; exact H) | exact H
          have Ny359 := Aside0.mk hy359
          clear hy359
          have H' := Aside0.mk H
          clear H
          have p347 : 0 ≤ ((ji5) : Int) := of_decide_eq_true (by first | (with_reducible assumption) | assumption)
          have q347 : (ji5) < (l1.length : Int) := of_decide_eq_true (by first | (with_reducible assumption) | assumption)
          obtain ⟨ad347, e347, hx347_0⟩ := Kd.at_int HR1.out (ji5) p347 q347
          cases e347
          first | (replace hx347_0 := (HB.out.cell (World.block_lt_of_cell? w _ hx347_0)).trans hx347_0) | skip
          replace p347 := eq_true p347
          replace q347 := eq_true q347
          go_wp2_with (first | ((with_reducible refine gate_callee (f := 115) rfl ?_); refine goesL_ (some 31) rfl rfl Try.func115 (by kernel_rfl) rfl #[.int .i64 x6_1, .int .i64 x7_2] rfl MP_ ?_; (with_reducible refine (warrantorref08_far.calls x6_1 x7_2 t348 _ A8.out).mono ?_); rintro e w' ⟨rfl, ⟨nd, rfl⟩⟩; refine ⟨_, rfl, ?_⟩) | ((with_reducible refine gate_builtin (b := .append) (xs := #[.tmp 38, .tmp 40]) rfl ?_); at_builtin; refine Kd.R_append (Kd.int .i64) (w0 := w) w.heap.size rfl (.tmp 38) (.tmp 40) 22 3 (.int .i64 0) 8 rfl Try.underlying22 info3 rfl (by decide) (by omega) u5 x5_2 (rd l1 (ji5)) [.int .i64 (rd l1 (ji5))] (fun _ => True) (fun _ => False) rfl rfl ?aP (fun _ hk => hk.elim) ?aF ?aO ?aB ?aS ?aL ?_; (case aP => exact rfl); (case aB => exact HB_); (case aF => exact (fun _ _ => trivial)); (case aO => exact (rd_ HO_5.out)); (case aS => exact (below_size HB_)); (case aL => have := LMc19.out; omega); intro v360 w20 ho hb hg hat; rw [← Ny359.out] at ho; have n_ := a_ (Aside0.mk hb) (Aside0.mk ho); clear HB HO_5; obtain ⟨HB, HO361⟩ := n_; clear ho hb hg hat))
          go_roundg k2
          case measure => have := HK1.out; have := HK2.out; omega
          case rel => exact ⟨(y359), (wrap64 (x7_2 + 1)), (by first | rfl | (simp; done) | (simp [*]; done)), H', ⟨by have := HK1.out; have := HK2.out; omega⟩, ⟨by (with_reducible repeat (first | apply Kd.R_alloc | apply Kd.R_drewN | apply Kd.R_drew)); exact HO361.out⟩, ⟨HB_⟩⟩
        rw [if_pos c16] at H
        have c16b0 : decide ((rd l1 (ji5)) < (-2199023255553)) = true := decide_eq_true c16
        clear c16
        replace H := yes_ H
        obtain ⟨c17, H⟩ := H
        have LMc17 := Aside0.mk c17
        clear c17
        obtain ⟨y356, hy356⟩ : ∃ y_ : List Int, y_ = (x5_2 ++ [(-2199023255553)]) := ⟨_, rfl⟩
        replace H : (warrantorref08_clip.l1 k2 a0 l1 y356 x6_1 (wrap64 (x7_2 + 1))) = some r := by first | (rw [hy356]; with_reducible exact H) | (have H2_ := (Option.bind_some _ _).symm.trans H; rw [hy356]; with_reducible exact H2_) | (have H2_ := (Option.bind_some _ _).symm.trans H; with_reducible exact H2_) | with_reducible exact H | (rw [hy356]; exact H) | exact H
        have Ny356 := Aside0.mk hy356
        clear hy356
        have H' := Aside0.mk H
        clear H
        have p347 : 0 ≤ ((ji5) : Int) := of_decide_eq_true (by first | (with_reducible assumption) | assumption)
        have q347 : (ji5) < (l1.length : Int) := of_decide_eq_true (by first | (with_reducible assumption) | assumption)
        obtain ⟨ad347, e347, hx347_0⟩ := Kd.at_int HR1.out (ji5) p347 q347
        cases e347
        first | (replace hx347_0 := (HB.out.cell (World.block_lt_of_cell? w _ hx347_0)).trans hx347_0) | skip
        replace p347 := eq_true p347
        replace q347 := eq_true q347
        go_wp2_with (first | ((with_reducible refine gate_callee (f := 115) rfl ?_); refine goesL_ (some 31) rfl rfl Try.func115 (by kernel_rfl) rfl #[.int .i64 x6_1, .int .i64 x7_2] rfl MP_ ?_; (with_reducible refine (warrantorref08_far.calls x6_1 x7_2 t348 _ A8.out).mono ?_); rintro e w' ⟨rfl, ⟨nd, rfl⟩⟩; refine ⟨_, rfl, ?_⟩) | ((with_reducible refine gate_builtin (b := .append) (xs := #[.tmp 38, .tmp 40]) rfl ?_); at_builtin; refine Kd.R_append (Kd.int .i64) (w0 := w) w.heap.size rfl (.tmp 38) (.tmp 40) 22 3 (.int .i64 0) 8 rfl Try.underlying22 info3 rfl (by decide) (by omega) u5 x5_2 (-2199023255553) [.int .i64 (-2199023255553)] (fun _ => True) (fun _ => False) rfl rfl ?aP (fun _ hk => hk.elim) ?aF ?aO ?aB ?aS ?aL ?_; (case aP => exact rfl); (case aB => exact HB_); (case aF => exact (fun _ _ => trivial)); (case aO => exact (rd_ HO_5.out)); (case aS => exact (below_size HB_)); (case aL => have := LMc17.out; omega); intro v357 w18 ho hb hg hat; rw [← Ny356.out] at ho; have n_ := a_ (Aside0.mk hb) (Aside0.mk ho); clear HB HO_5; obtain ⟨HB, HO358⟩ := n_; clear ho hb hg hat))
        go_roundg k2
        case measure => have := HK1.out; have := HK2.out; omega
        case rel => exact ⟨(y356), (wrap64 (x7_2 + 1)), (by first | rfl | (simp; done) | (simp [*]; done)), H', ⟨by have := HK1.out; have := HK2.out; omega⟩, ⟨by (with_reducible repeat (first | apply Kd.R_alloc | apply Kd.R_drewN | apply Kd.R_drew)); exact HO358.out⟩, ⟨HB_⟩⟩
      rw [if_pos c9] at H
      have c9b0 : decide (t348 < (rd l1 (ji5))) = true := decide_eq_true c9
      clear c9
      replace H := bd_ H
      obtain ⟨t349, A10, H⟩ := H
      (try dsimp only at H)
      by_cases c11 : t349 < (-2199023255553)
      rotate_left
      · rw [if_neg c11] at H
        have c11b0 : decide (t349 < (-2199023255553)) = false := decide_eq_false c11
        clear c11
        replace H := yes_ H
        obtain ⟨c14, H⟩ := H
        have LMc14 := Aside0.mk c14
        clear c14
        obtain ⟨y353, hy353⟩ : ∃ y_ : List Int, y_ = (x5_2 ++ [t349]) := ⟨_, rfl⟩
        replace H : (warrantorref08_clip.l1 k2 a0 l1 y353 x6_1 (wrap64 (x7_2 + 1))) = some r := by first | (rw [hy353]; with_reducible exact H) | (have H2_ := (Option.bind_some _ _).symm.trans H; rw [hy353]; with_reducible exact H2_) | (have H2_ := (Option.bind_some _ _).symm.trans H; with_reducible exact H2_) | with_reducible exact H | (rw [hy353]; exact H) | exact H
        have Ny353 := Aside0.mk hy353
        clear hy353
        have H' := Aside0.mk H
        clear H
        have p347 : 0 ≤ ((ji5) : Int) := of_decide_eq_true (by first | (with_reducible assumption) | assumption)
        have q347 : (ji5) < (l1.length : Int) := of_decide_eq_true (by first | (with_reducible assumption) | assumption)
        obtain ⟨ad347, e347, hx347_0⟩ := Kd.at_int HR1.out (ji5) p347 q347
        cases e347
        first | (replace hx347_0 := (HB.out.cell (World.block_lt_of_cell? w _ hx347_0)).trans hx347_0) | skip
        replace p347 := eq_true p347
        replace q347 := eq_true q347
        go_wp2_with (first | ((with_reducible refine gate_callee (f := 115) rfl ?_); refine goesL_ (some 31) rfl rfl Try.func115 (by kernel_rfl) rfl #[.int .i64 x6_1, .int .i64 x7_2] rfl MP_ ?_; (with_reducible refine (warrantorref08_far.calls x6_1 x7_2 t348 _ A8.out).mono ?_); rintro e w' ⟨rfl, ⟨nd, rfl⟩⟩; refine ⟨_, rfl, ?_⟩; (try clear A8)) | ((with_reducible refine gate_callee (f := 115) rfl ?_); refine goesL_ (some 35) rfl rfl Try.func115 (by kernel_rfl) rfl #[.int .i64 x6_1, .int .i64 x7_2] rfl MP_ ?_; (with_reducible refine (warrantorref08_far.calls x6_1 x7_2 t349 _ A10.out).mono ?_); rintro e w' ⟨rfl, ⟨nd, rfl⟩⟩; refine ⟨_, rfl, ?_⟩) | ((with_reducible refine gate_builtin (b := .append) (xs := #[.tmp 38, .tmp 40]) rfl ?_); at_builtin; refine Kd.R_append (Kd.int .i64) (w0 := w) w.heap.size rfl (.tmp 38) (.tmp 40) 22 3 (.int .i64 0) 8 rfl Try.underlying22 info3 rfl (by decide) (by omega) u5 x5_2 t349 [.int .i64 t349] (fun _ => True) (fun _ => False) rfl rfl ?aP (fun _ hk => hk.elim) ?aF ?aO ?aB ?aS ?aL ?_; (case aP => exact rfl); (case aB => exact HB_); (case aF => exact (fun _ _ => trivial)); (case aO => exact (rd_ HO_5.out)); (case aS => exact (below_size HB_)); (case aL => have := LMc14.out; omega); intro v354 w15 ho hb hg hat; rw [← Ny353.out] at ho; have n_ := a_ (Aside0.mk hb) (Aside0.mk ho); clear HB HO_5; obtain ⟨HB, HO355⟩ := n_; clear ho hb hg hat))
        go_roundg k2
        case measure => have := HK1.out; have := HK2.out; omega
        case rel => exact ⟨(y353), (wrap64 (x7_2 + 1)), (by first | rfl | (simp; done) | (simp [*]; done)), H', ⟨by have := HK1.out; have := HK2.out; omega⟩, ⟨by (with_reducible repeat (first | apply Kd.R_alloc | apply Kd.R_drewN | apply Kd.R_drew)); exact HO355.out⟩, ⟨HB_⟩⟩
      rw [if_pos c11] at H
      have c11b0 : decide (t349 < (-2199023255553)) = true := decide_eq_true c11
      clear c11
      replace H := yes_ H
      obtain ⟨c12, H⟩ := H
      have LMc12 := Aside0.mk c12
      clear c12
      obtain ⟨y350, hy350⟩ : ∃ y_ : List Int, y_ = (x5_2 ++ [(-2199023255553)]) := ⟨_, rfl⟩
      replace H : (warrantorref08_clip.l1 k2 a0 l1 y350 x6_1 (wrap64 (x7_2 + 1))) = some r := by first | (rw [hy350]; with_reducible exact H) | (have H2_ := (Option.bind_some _ _).symm.trans H; rw [hy350]; with_reducible exact H2_) | (have H2_ := (Option.bind_some _ _).symm.trans H; with_reducible exact H2_) | with_reducible exact H | (rw [hy350]; exact H) | exact H
      have Ny350 := Aside0.mk hy350
      clear hy350
      have H' := Aside0.mk H
      clear H
      have p347 : 0 ≤ ((ji5) : Int) := of_decide_eq_true (by first | (with_reducible assumption) | assumption)
      have q347 : (ji5) < (l1.length : Int) := of_decide_eq_true (by first | (with_reducible assumption) | assumption)
      obtain ⟨ad347, e347, hx347_0⟩ := Kd.at_int HR1.out (ji5) p347 q347
      cases e347
      first | (replace hx347_0 := (HB.out.cell (World.block_lt_of_cell? w _ hx347_0)).trans hx347_0) | skip
      replace p347 := eq_true p347
      replace q347 := eq_true q347
      go_wp2_with (first | ((with_reducible refine gate_callee (f := 115) rfl ?_); refine goesL_ (some 31) rfl rfl Try.func115 (by kernel_rfl) rfl #[.int .i64 x6_1, .int .i64 x7_2] rfl MP_ ?_; (with_reducible refine (warrantorref08_far.calls x6_1 x7_2 t348 _ A8.out).mono ?_); rintro e w' ⟨rfl, ⟨nd, rfl⟩⟩; refine ⟨_, rfl, ?_⟩; (try clear A8)) | ((with_reducible refine gate_callee (f := 115) rfl ?_); refine goesL_ (some 35) rfl rfl Try.func115 (by kernel_rfl) rfl #[.int .i64 x6_1, .int .i64 x7_2] rfl MP_ ?_; (with_reducible refine (warrantorref08_far.calls x6_1 x7_2 t349 _ A10.out).mono ?_); rintro e w' ⟨rfl, ⟨nd, rfl⟩⟩; refine ⟨_, rfl, ?_⟩) | ((with_reducible refine gate_builtin (b := .append) (xs := #[.tmp 38, .tmp 40]) rfl ?_); at_builtin; refine Kd.R_append (Kd.int .i64) (w0 := w) w.heap.size rfl (.tmp 38) (.tmp 40) 22 3 (.int .i64 0) 8 rfl Try.underlying22 info3 rfl (by decide) (by omega) u5 x5_2 (-2199023255553) [.int .i64 (-2199023255553)] (fun _ => True) (fun _ => False) rfl rfl ?aP (fun _ hk => hk.elim) ?aF ?aO ?aB ?aS ?aL ?_; (case aP => exact rfl); (case aB => exact HB_); (case aF => exact (fun _ _ => trivial)); (case aO => exact (rd_ HO_5.out)); (case aS => exact (below_size HB_)); (case aL => have := LMc12.out; omega); intro v351 w13 ho hb hg hat; rw [← Ny350.out] at ho; have n_ := a_ (Aside0.mk hb) (Aside0.mk ho); clear HB HO_5; obtain ⟨HB, HO352⟩ := n_; clear ho hb hg hat))
      go_roundg k2
      case measure => have := HK1.out; have := HK2.out; omega
      case rel => exact ⟨(y350), (wrap64 (x7_2 + 1)), (by first | rfl | (simp; done) | (simp [*]; done)), H', ⟨by have := HK1.out; have := HK2.out; omega⟩, ⟨by (with_reducible repeat (first | apply Kd.R_alloc | apply Kd.R_drewN | apply Kd.R_drew)); exact HO352.out⟩, ⟨HB_⟩⟩
end Go.Proofs.Ytgeemdpflcefkaa.Y
