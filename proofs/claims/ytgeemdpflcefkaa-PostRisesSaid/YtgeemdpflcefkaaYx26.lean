import Derived.Test.YtgeemdpflcefkaaYx0
import Derived.Test.YtgeemdpflcefkaaYx23
import Derived.Test.YtgeemdpflcefkaaYx24
import Derived.Test.YtgeemdpflcefkaaYx25
namespace Go.Proofs.Ytgeemdpflcefkaa.Y
open Go.RowKit Go.Proofs.YtgeemdpflcefkaaW.PrintWords Go.Proofs.YtgeemdpflcefkaaW.PrintLast Go.Proofs.YtgeemdpflcefkaaW.PrintMore
attribute [local go_sem] max2_int min2_int max_two min_two max_three min_three max_four min_four   -- for this text's walks alone
set_option linter.unusedVariables false
set_option linter.unusedSimpArgs false
def post_let.f (k : Nat) (a0_0 : Int) (l0_1 : List Int) (a1_0 : Int) (a1_1 : Int) (a1_2 : Int) (a1_3 : Int) (a1_4 : Int) : Option (Int × List Int × Int) := (zone_Let.f k a0_0 l0_1 a1_1 a1_2 a1_3).bind fun bt286 => (some (bt286.1, bt286.2.1, bt286.2.2))
theorem post_let.mono : ∀ a0 a1 a2 a3 a4 a5 a6 k, LeO (post_let.f k a0 a1 a2 a3 a4 a5 a6) (post_let.f (k + 1) a0 a1 a2 a3 a4 a5 a6) := by
 intro a0 a1 a2 a3 a4 a5 a6 k
 unfold post_let.f
 repeat' first
  | (with_reducible exact zone_Let.mono _ _ _ _ _ _)
  | (with_reducible exact LeO.refl _)
  | (with_reducible exact LeO.none _)
  | (with_reducible refine LeO.ite ?_ ?_)
  | (with_reducible refine LeO.bind ?_ (fun _ => ?_))
  | exact zone_Let.mono _ _ _ _ _ _
  | exact LeO.none _
  | refine LeO.ite ?_ ?_
  | refine LeO.bind ?_ (fun _ => ?_)
set_option maxHeartbeats 8000000 in
set_option maxRecDepth 100000 in
theorem post_let.calls (k : Nat) (a0_0 : Int) (A0_1 : Option Addr) (c0_1 : Nat) (l0_1 : List Int) (a1_0 : Int) (a1_1 : Int) (a1_2 : Int) (a1_3 : Int) (a1_4 : Int) (r1 : Int) (r2 : List Int) (r3 : Int) (w : World) (hr0_1 : Kd.C (Kd.int .i64) w A0_1 l0_1.length l0_1) (hc0_1 : l0_1.length ≤ c0_1) (h : post_let.f k a0_0 l0_1 a1_0 a1_1 a1_2 a1_3 a1_4 = some (r1, r2, r3)) :
  Calls Try.prog 95 #[.agg #[.int .i64 a0_0, .slice A0_1 l0_1.length c0_1], .agg #[.int .i64 a1_0, .int .i64 a1_1, .int .i64 a1_2, .int .i64 a1_3, .int .i64 a1_4]] w fun e w' => ∃ v1_ : Value, e = .returned (.tuple #[.agg #[.int .i64 r1, v1_], .int .i64 r3]) ∧ Kd.R (Kd.int .i64) 3 w' w.heap.size (fun _ => True) v1_ r2 ∧ Below w.heap.size w w' := by
 have hu24 := Try.underlying24
 have hu26 := Try.underlying26
 have HR0_1 := Aside0.mk hr0_1
 have HC0_1 := Aside0.mk hc0_1
 clear hr0_1 hc0_1
 have HB := Aside0.mk (Below.refl w.heap.size w)
 have H : ((zone_Let.f k a0_0 l0_1 a1_1 a1_2 a1_3).bind fun bt286 => (some (bt286.1, bt286.2.1, bt286.2.2))) = some (r1, r2, r3) := h
 clear h
 replace H := Option.bind_eq_some_iff.mp H
 obtain ⟨⟨t286, t287, t290⟩, A30, H⟩ := H
 replace H : (some (t286, t287, t290)) = some (r1, r2, r3) := H
 have A3 := Aside0.mk A30
 clear A30
 simp only [Option.some.injEq, Prod.mk.injEq] at H
 obtain ⟨rfl, rfl, rfl⟩ := H
 go_enter Try.func95, Try.ntmps95
 go_wp2_with (first | ((with_reducible refine gate_dst (N := 2) rfl ?_); refine bx_ (N := 2) (cs := #[.int .i64 a0_0, .slice A0_1 l0_1.length c0_1]) (t := 24) ?_; intro gb283 hg w4 hbox hb; have n_ := a_ (bs_ HB hb) (a_ (Aside0.mk hbox) (a_ (gs_ HB hg) (gs_ HB hg))); clear HB; obtain ⟨HB, BK283, GW283, GE283⟩ := n_; clear hb hbox hg) | ((with_reducible refine gate_dst (N := 3) rfl ?_); refine bx_ (N := 3) (cs := #[.int .i64 a1_0, .int .i64 a1_1, .int .i64 a1_2, .int .i64 a1_3, .int .i64 a1_4]) (t := 26) ?_; intro gb284 hg w5 hbox hb; have n_ := a_ (bb_ BK283 hb) (a_ (bs_ HB hb) (a_ (Aside0.mk hbox) (a_ (gs_ HB hg) (a_ (gs_ HB hg) (a_ (nl_ BK283 hg) (ng_ BK283 hg)))))); clear BK283 HB; obtain ⟨BK283, HB, BK284, GW284, GE284, NB283_284, NB284_283⟩ := n_; clear hb hbox hg) | ((with_reducible refine gate_dst (N := 4) rfl ?_); refine bx_ (N := 4) (cs := #[.int .i64 0, .slice none 0 0]) (t := 24) ?_; intro gb285 hg w6 hbox hb; have n_ := a_ (bb_ BK283 hb) (a_ (bb_ BK284 hb) (a_ (bs_ HB hb) (a_ (Aside0.mk hbox) (a_ (gs_ HB hg) (a_ (gs_ HB hg) (a_ (nl_ BK283 hg) (a_ (ng_ BK283 hg) (a_ (nl_ BK284 hg) (ng_ BK284 hg))))))))); clear BK283 BK284 HB; obtain ⟨BK283, BK284, HB, BK285, GW285, GE285, NB283_285, NB285_283, NB284_285, NB285_284⟩ := n_; clear hb hbox hg; have hnb7 := NB283_284.out; have hnc7 := NB284_283.out; have hnb8 := NB283_285.out; have hnc8 := NB285_283.out; obtain ⟨hcz9_0, hcz9_1, hfz9_0, hfz9_1⟩ := cz2_ BK283; have hnb10 := NB284_285.out; have hnc10 := NB285_284.out; obtain ⟨hcz11_0, hcz11_1, hcz11_2, hcz11_3, hcz11_4, hfz11_0, hfz11_1, hfz11_2, hfz11_3, hfz11_4⟩ := cz5_ BK284) | ((with_reducible refine gate_callee (f := 25) rfl ?_); refine goesL_ (some 13) rfl rfl Try.func25 (by kernel_rfl) rfl #[.agg #[.int .i64 a0_0, .slice A0_1 l0_1.length c0_1], .int .i64 a1_1, .int .i64 a1_2, .int .i64 a1_3] rfl MP_ ?_; (with_reducible refine (zone_Let.calls k a0_0 _ _ l0_1 a1_1 a1_2 a1_3 t286 t287 t290 _ ?side1 ?side2 A3.out).mono ?_); (case side1 => exact sd_ (Kd.C_below HR0_1.out HB.out)); (case side2 => exact HC0_1.out); rintro e w12 ⟨v288, rfl, ho0, hb⟩; refine ⟨_, rfl, ?_⟩; have n_ := a_ (Aside0.mk (Kd.R_lower ho0 (below_size HB_))) (a_ (bb_ BK283 hb) (a_ (bb_ BK284 hb) (a_ (bb_ BK285 hb) (bs_ HB hb)))); clear BK283 BK284 BK285 HB; obtain ⟨HO289, BK283, BK284, BK285, HB⟩ := n_; (try clear hb); (try clear hb2); (try clear hk); (try clear hi); (try clear ho0); obtain ⟨hcz13_0, hcz13_1, hfz13_0, hfz13_1⟩ := cz2_ BK285; obtain ⟨Ao14, co14, eo14⟩ := Kd.R_slice HO289.out; subst eo14))
 refine bodyPost_ret (results_ct rfl _ _ gb285 24 #[.int .i64 t286, .slice Ao14 t287.length co14] (0, 0) _ rfl (bk2_ BK285.out) Try.underlying24 rfl (by kernel_rfl)) rfl ?_
 exact ⟨_, by first | rfl | (simp [errW_none, errW_some] <;> rfl) | (simp [*, errW_none, errW_some] <;> rfl), by (with_reducible repeat (first | apply Kd.R_alloc | apply Kd.R_drewN | apply Kd.R_drew)); exact Kd.R_mono (Kd.R_far (p := ⟨gb285, 1, none⟩) (Kd.R_far (p := ⟨gb285, 0, none⟩) (Kd.R_types HO289.out BK285.out (by decide)) (fun _ hk => hk.2) (.int .i64 t286)) (fun _ hk => hk.2) (.slice Ao14 t287.length co14)) (fun _ hk => trivial), HB_⟩
def post_take.f (k : Nat) (a0_0 : Int) (l0_1 : List Int) (a1_0 : Int) (a1_1 : Int) (a1_2 : Int) (a1_3 : Int) (a1_4 : Int) : Option (Int × List Int × Int) := (zone_Forget.f k a0_0 l0_1 a1_1).bind fun bt294 => ((zone_Limit.f k bt294.1 bt294.2.1 a1_1 0 a1_4).bind fun bt299 => ((zone_Limit.f k bt299.1 bt299.2.1 0 a1_1 (wrap64 (-a1_3))).bind fun bt304 => (some (bt304.1, bt304.2.1, bt304.2.2))))
theorem post_take.mono : ∀ a0 a1 a2 a3 a4 a5 a6 k, LeO (post_take.f k a0 a1 a2 a3 a4 a5 a6) (post_take.f (k + 1) a0 a1 a2 a3 a4 a5 a6) := by
 intro a0 a1 a2 a3 a4 a5 a6 k
 unfold post_take.f
 repeat' first
  | (with_reducible exact zone_Forget.mono _ _ _ _)
  | (with_reducible exact zone_Limit.mono _ _ _ _ _ _)
  | (with_reducible exact LeO.refl _)
  | (with_reducible exact LeO.none _)
  | (with_reducible refine LeO.ite ?_ ?_)
  | (with_reducible refine LeO.bind ?_ (fun _ => ?_))
  | exact zone_Forget.mono _ _ _ _
  | exact zone_Limit.mono _ _ _ _ _ _
  | exact LeO.none _
  | refine LeO.ite ?_ ?_
  | refine LeO.bind ?_ (fun _ => ?_)
set_option maxHeartbeats 8000000 in
set_option maxRecDepth 100000 in
theorem post_take.calls (k : Nat) (a0_0 : Int) (A0_1 : Option Addr) (c0_1 : Nat) (l0_1 : List Int) (a1_0 : Int) (a1_1 : Int) (a1_2 : Int) (a1_3 : Int) (a1_4 : Int) (r1 : Int) (r2 : List Int) (r3 : Int) (w : World) (hr0_1 : Kd.C (Kd.int .i64) w A0_1 l0_1.length l0_1) (hc0_1 : l0_1.length ≤ c0_1) (h : post_take.f k a0_0 l0_1 a1_0 a1_1 a1_2 a1_3 a1_4 = some (r1, r2, r3)) :
  Calls Try.prog 96 #[.agg #[.int .i64 a0_0, .slice A0_1 l0_1.length c0_1], .agg #[.int .i64 a1_0, .int .i64 a1_1, .int .i64 a1_2, .int .i64 a1_3, .int .i64 a1_4]] w fun e w' => ∃ v1_ : Value, e = .returned (.tuple #[.agg #[.int .i64 r1, v1_], .int .i64 r3]) ∧ Kd.R (Kd.int .i64) 3 w' w.heap.size (fun _ => True) v1_ r2 ∧ Below w.heap.size w w' := by
 have hu24 := Try.underlying24
 have hu26 := Try.underlying26
 have HR0_1 := Aside0.mk hr0_1
 have HC0_1 := Aside0.mk hc0_1
 clear hr0_1 hc0_1
 have HB := Aside0.mk (Below.refl w.heap.size w)
 have H : ((zone_Forget.f k a0_0 l0_1 a1_1).bind fun bt294 => ((zone_Limit.f k bt294.1 bt294.2.1 a1_1 0 a1_4).bind fun bt299 => ((zone_Limit.f k bt299.1 bt299.2.1 0 a1_1 (wrap64 (-a1_3))).bind fun bt304 => (some (bt304.1, bt304.2.1, bt304.2.2))))) = some (r1, r2, r3) := h
 clear h
 replace H := Option.bind_eq_some_iff.mp H
 obtain ⟨⟨t294, t295, t298⟩, A30, H⟩ := H
 replace H : ((zone_Limit.f k t294 t295 a1_1 0 a1_4).bind fun bt299 => ((zone_Limit.f k bt299.1 bt299.2.1 0 a1_1 (wrap64 (-a1_3))).bind fun bt304 => (some (bt304.1, bt304.2.1, bt304.2.2)))) = some (r1, r2, r3) := H
 have A3 := Aside0.mk A30
 clear A30
 replace H := Option.bind_eq_some_iff.mp H
 obtain ⟨⟨t299, t300, t303⟩, A40, H⟩ := H
 replace H : ((zone_Limit.f k t299 t300 0 a1_1 (wrap64 (-a1_3))).bind fun bt304 => (some (bt304.1, bt304.2.1, bt304.2.2))) = some (r1, r2, r3) := H
 have A4 := Aside0.mk A40
 clear A40
 replace H := Option.bind_eq_some_iff.mp H
 obtain ⟨⟨t304, t305, t308⟩, A50, H⟩ := H
 replace H : (some (t304, t305, t308)) = some (r1, r2, r3) := H
 have A5 := Aside0.mk A50
 clear A50
 simp only [Option.some.injEq, Prod.mk.injEq] at H
 obtain ⟨rfl, rfl, rfl⟩ := H
 go_enter Try.func96, Try.ntmps96
 go_wp2_with (first | ((with_reducible refine gate_dst (N := 2) rfl ?_); refine bx_ (N := 2) (cs := #[.int .i64 a0_0, .slice A0_1 l0_1.length c0_1]) (t := 24) ?_; intro gb291 hg w6 hbox hb; have n_ := a_ (bs_ HB hb) (a_ (Aside0.mk hbox) (a_ (gs_ HB hg) (gs_ HB hg))); clear HB; obtain ⟨HB, BK291, GW291, GE291⟩ := n_; clear hb hbox hg) | ((with_reducible refine gate_dst (N := 3) rfl ?_); refine bx_ (N := 3) (cs := #[.int .i64 a1_0, .int .i64 a1_1, .int .i64 a1_2, .int .i64 a1_3, .int .i64 a1_4]) (t := 26) ?_; intro gb292 hg w7 hbox hb; have n_ := a_ (bb_ BK291 hb) (a_ (bs_ HB hb) (a_ (Aside0.mk hbox) (a_ (gs_ HB hg) (a_ (gs_ HB hg) (a_ (nl_ BK291 hg) (ng_ BK291 hg)))))); clear BK291 HB; obtain ⟨BK291, HB, BK292, GW292, GE292, NB291_292, NB292_291⟩ := n_; clear hb hbox hg) | ((with_reducible refine gate_dst (N := 4) rfl ?_); refine bx_ (N := 4) (cs := #[.int .i64 0, .slice none 0 0]) (t := 24) ?_; intro gb293 hg w8 hbox hb; have n_ := a_ (bb_ BK291 hb) (a_ (bb_ BK292 hb) (a_ (bs_ HB hb) (a_ (Aside0.mk hbox) (a_ (gs_ HB hg) (a_ (gs_ HB hg) (a_ (nl_ BK291 hg) (a_ (ng_ BK291 hg) (a_ (nl_ BK292 hg) (ng_ BK292 hg))))))))); clear BK291 BK292 HB; obtain ⟨BK291, BK292, HB, BK293, GW293, GE293, NB291_293, NB293_291, NB292_293, NB293_292⟩ := n_; clear hb hbox hg; have hnb9 := NB291_292.out; have hnc9 := NB292_291.out; have hnb10 := NB291_293.out; have hnc10 := NB293_291.out; obtain ⟨hcz11_0, hcz11_1, hfz11_0, hfz11_1⟩ := cz2_ BK291; have hnb12 := NB292_293.out; have hnc12 := NB293_292.out; obtain ⟨hcz13_0, hcz13_1, hcz13_2, hcz13_3, hcz13_4, hfz13_0, hfz13_1, hfz13_2, hfz13_3, hfz13_4⟩ := cz5_ BK292) | ((with_reducible refine gate_callee (f := 24) rfl ?_); refine goesL_ (some 10) rfl rfl Try.func24 (by kernel_rfl) rfl #[.agg #[.int .i64 a0_0, .slice A0_1 l0_1.length c0_1], .int .i64 a1_1] rfl MP_ ?_; (with_reducible refine (zone_Forget.calls k a0_0 _ _ l0_1 a1_1 t294 t295 t298 _ ?side1 ?side2 A3.out).mono ?_); (case side1 => exact sd_ (Kd.C_below HR0_1.out HB.out)); (case side2 => exact HC0_1.out); rintro e w14 ⟨v296, rfl, ho0, hb⟩; refine ⟨_, rfl, ?_⟩; have n_ := a_ (Aside0.mk (Kd.R_lower ho0 (below_size HB_))) (a_ (bb_ BK291 hb) (a_ (bb_ BK292 hb) (a_ (bb_ BK293 hb) (bs_ HB hb)))); clear BK291 BK292 BK293 HB; obtain ⟨HO297, BK291, BK292, BK293, HB⟩ := n_; (try clear hb); (try clear hb2); (try clear hk); (try clear hi); (try clear ho0); obtain ⟨hcz15_0, hcz15_1, hfz15_0, hfz15_1⟩ := cz2_ BK291; obtain ⟨Ao16, co16, eo16⟩ := Kd.R_slice HO297.out; subst eo16; obtain ⟨hcz17_0, hcz17_1, hcz17_2, hcz17_3, hcz17_4, hfz17_0, hfz17_1, hfz17_2, hfz17_3, hfz17_4⟩ := cz5_ BK292) | ((with_reducible refine gate_callee (f := 23) rfl ?_); refine goesL_ (some 19) rfl rfl Try.func23 (by kernel_rfl) rfl #[.agg #[.int .i64 t294, .slice Ao16 t295.length co16], .int .i64 a1_1, .int .i64 0, .int .i64 a1_4] rfl MP_ ?_; (with_reducible refine (zone_Limit.calls k t294 _ _ t295 a1_1 0 a1_4 t299 t300 t303 _ ?side1 ?side2 A4.out).mono ?_); (case side1 => refine (Kd.R_reads' (e := 3) (base := w.heap.size) (ok := fun k_ => True) (n := t295.length) (c := co16) ?_).2.2; exact (rd_ (rf2_ HO297 BK291 (.int .i64 t294) (.slice Ao16 t295.length co16)))); (case side2 => exact (Kd.R_reads' HO297.out).2.1); rintro e w18 ⟨v301, rfl, ho0, hb⟩; refine ⟨_, rfl, ?_⟩; have n_ := a_ (Aside0.mk (Kd.R_elder' (rd_ (rf2_ HO297 BK291 (.int .i64 t294) (.slice Ao16 t295.length co16))) (Kd.R_base ho0) hb)) (a_ (Aside0.mk (Kd.R_lower (Kd.R_new' ho0 (Kd.R_lt (rd_ (rf2_ HO297 BK291 (.int .i64 t294) (.slice Ao16 t295.length co16))))) (below_size HB_))) (a_ (bc_ #[.int .i64 t294, .slice Ao16 t295.length co16] 24 BK291 hb) (a_ (bc_ #[.int .i64 a1_0, .int .i64 a1_1, .int .i64 a1_2, .int .i64 a1_3, .int .i64 a1_4] 26 BK292 hb) (a_ (bc_ #[.int .i64 0, .slice none 0 0] 24 BK293 hb) (bs_ HB hb))))); clear HO297 BK291 BK292 BK293 HB; obtain ⟨HO297, HO302, BK291, BK292, BK293, HB⟩ := n_; (try clear hb); (try clear hb2); (try clear hk); (try clear hi); (try clear ho0); obtain ⟨hcz19_0, hcz19_1, hfz19_0, hfz19_1⟩ := cz2_ BK291; obtain ⟨Ao20, co20, eo20⟩ := Kd.R_slice HO302.out; subst eo20; obtain ⟨hcz21_0, hcz21_1, hcz21_2, hcz21_3, hcz21_4, hfz21_0, hfz21_1, hfz21_2, hfz21_3, hfz21_4⟩ := cz5_ BK292; (try clear A4)) | ((with_reducible refine gate_callee (f := 23) rfl ?_); refine goesL_ (some 28) rfl rfl Try.func23 (by kernel_rfl) rfl #[.agg #[.int .i64 t299, .slice Ao20 t300.length co20], .int .i64 0, .int .i64 a1_1, .int .i64 (wrap64 (-a1_3))] rfl MP_ ?_; (with_reducible refine (zone_Limit.calls k t299 _ _ t300 0 a1_1 (wrap64 (-a1_3)) t304 t305 t308 _ ?side1 ?side2 A5.out).mono ?_); (case side1 => refine (Kd.R_reads' (e := 3) (base := w.heap.size) (ok := fun k_ => (True ∧ some k_ ≠ (.slice Ao16 t295.length co16 : Value).ownBlock)) (n := t300.length) (c := co20) ?_).2.2; exact (rd_ (rf2_ HO302 BK291 (.int .i64 t299) (.slice Ao20 t300.length co20)))); (case side2 => exact (Kd.R_reads' HO302.out).2.1); rintro e w22 ⟨v306, rfl, ho0, hb⟩; refine ⟨_, rfl, ?_⟩; have n_ := a_ (Aside0.mk (Kd.R_elder' (rd_ (rf2_ HO297 BK291 (.int .i64 t299) (.slice Ao20 t300.length co20))) (Kd.R_base ho0) hb)) (a_ (Aside0.mk (Kd.R_elder' (rd_ (rf2_ HO302 BK291 (.int .i64 t299) (.slice Ao20 t300.length co20))) (Kd.R_base ho0) hb)) (a_ (Aside0.mk (Kd.R_lower (Kd.R_new' (Kd.R_new' ho0 (Kd.R_lt (rd_ (rf2_ HO297 BK291 (.int .i64 t299) (.slice Ao20 t300.length co20))))) (Kd.R_lt (rd_ (rf2_ HO302 BK291 (.int .i64 t299) (.slice Ao20 t300.length co20))))) (below_size HB_))) (a_ (bc_ #[.int .i64 t299, .slice Ao20 t300.length co20] 24 BK291 hb) (a_ (bc_ #[.int .i64 a1_0, .int .i64 a1_1, .int .i64 a1_2, .int .i64 a1_3, .int .i64 a1_4] 26 BK292 hb) (a_ (bc_ #[.int .i64 0, .slice none 0 0] 24 BK293 hb) (bs_ HB hb)))))); clear HO297 HO302 BK291 BK292 BK293 HB; obtain ⟨HO297, HO302, HO307, BK291, BK292, BK293, HB⟩ := n_; (try clear hb); (try clear hb2); (try clear hk); (try clear hi); (try clear ho0); obtain ⟨hcz23_0, hcz23_1, hfz23_0, hfz23_1⟩ := cz2_ BK293; obtain ⟨Ao24, co24, eo24⟩ := Kd.R_slice HO307.out; subst eo24))
 refine bodyPost_ret (results_ct rfl _ _ gb293 24 #[.int .i64 t304, .slice Ao24 t305.length co24] (0, 0) _ rfl (bk2_ BK293.out) Try.underlying24 rfl (by kernel_rfl)) rfl ?_
 exact ⟨_, by first | rfl | (simp [errW_none, errW_some] <;> rfl) | (simp [*, errW_none, errW_some] <;> rfl), by (with_reducible repeat (first | apply Kd.R_alloc | apply Kd.R_drewN | apply Kd.R_drew)); exact Kd.R_mono (Kd.R_far (p := ⟨gb293, 1, none⟩) (Kd.R_far (p := ⟨gb293, 0, none⟩) (Kd.R_types HO307.out BK293.out (by decide)) (fun _ hk => hk.2) (.int .i64 t304)) (fun _ hk => hk.2) (.slice Ao24 t305.length co24)) (fun _ hk => trivial), HB_⟩
def post_limit.f (k : Nat) (a0_0 : Int) (l0_1 : List Int) (a1_0 : Int) (a1_1 : Int) (a1_2 : Int) (a1_3 : Int) (a1_4 : Int) : Option (Int × List Int × Int) := (zone_Limit.f k a0_0 l0_1 a1_1 a1_2 a1_3).bind fun bt312 => (some (bt312.1, bt312.2.1, bt312.2.2))
theorem post_limit.mono : ∀ a0 a1 a2 a3 a4 a5 a6 k, LeO (post_limit.f k a0 a1 a2 a3 a4 a5 a6) (post_limit.f (k + 1) a0 a1 a2 a3 a4 a5 a6) := by
 intro a0 a1 a2 a3 a4 a5 a6 k
 unfold post_limit.f
 repeat' first
  | (with_reducible exact zone_Limit.mono _ _ _ _ _ _)
  | (with_reducible exact LeO.refl _)
  | (with_reducible exact LeO.none _)
  | (with_reducible refine LeO.ite ?_ ?_)
  | (with_reducible refine LeO.bind ?_ (fun _ => ?_))
  | exact zone_Limit.mono _ _ _ _ _ _
  | exact LeO.none _
  | refine LeO.ite ?_ ?_
  | refine LeO.bind ?_ (fun _ => ?_)
set_option maxHeartbeats 8000000 in
set_option maxRecDepth 100000 in
theorem post_limit.calls (k : Nat) (a0_0 : Int) (A0_1 : Option Addr) (c0_1 : Nat) (l0_1 : List Int) (a1_0 : Int) (a1_1 : Int) (a1_2 : Int) (a1_3 : Int) (a1_4 : Int) (r1 : Int) (r2 : List Int) (r3 : Int) (w : World) (hr0_1 : Kd.C (Kd.int .i64) w A0_1 l0_1.length l0_1) (hc0_1 : l0_1.length ≤ c0_1) (h : post_limit.f k a0_0 l0_1 a1_0 a1_1 a1_2 a1_3 a1_4 = some (r1, r2, r3)) :
  Calls Try.prog 97 #[.agg #[.int .i64 a0_0, .slice A0_1 l0_1.length c0_1], .agg #[.int .i64 a1_0, .int .i64 a1_1, .int .i64 a1_2, .int .i64 a1_3, .int .i64 a1_4]] w fun e w' => ∃ v1_ : Value, e = .returned (.tuple #[.agg #[.int .i64 r1, v1_], .int .i64 r3]) ∧ Kd.R (Kd.int .i64) 3 w' w.heap.size (fun _ => True) v1_ r2 ∧ Below w.heap.size w w' := by
 have hu24 := Try.underlying24
 have hu26 := Try.underlying26
 have HR0_1 := Aside0.mk hr0_1
 have HC0_1 := Aside0.mk hc0_1
 clear hr0_1 hc0_1
 have HB := Aside0.mk (Below.refl w.heap.size w)
 have H : ((zone_Limit.f k a0_0 l0_1 a1_1 a1_2 a1_3).bind fun bt312 => (some (bt312.1, bt312.2.1, bt312.2.2))) = some (r1, r2, r3) := h
 clear h
 replace H := Option.bind_eq_some_iff.mp H
 obtain ⟨⟨t312, t313, t316⟩, A30, H⟩ := H
 replace H : (some (t312, t313, t316)) = some (r1, r2, r3) := H
 have A3 := Aside0.mk A30
 clear A30
 simp only [Option.some.injEq, Prod.mk.injEq] at H
 obtain ⟨rfl, rfl, rfl⟩ := H
 go_enter Try.func97, Try.ntmps97
 go_wp2_with (first | ((with_reducible refine gate_dst (N := 2) rfl ?_); refine bx_ (N := 2) (cs := #[.int .i64 a0_0, .slice A0_1 l0_1.length c0_1]) (t := 24) ?_; intro gb309 hg w4 hbox hb; have n_ := a_ (bs_ HB hb) (a_ (Aside0.mk hbox) (a_ (gs_ HB hg) (gs_ HB hg))); clear HB; obtain ⟨HB, BK309, GW309, GE309⟩ := n_; clear hb hbox hg) | ((with_reducible refine gate_dst (N := 3) rfl ?_); refine bx_ (N := 3) (cs := #[.int .i64 a1_0, .int .i64 a1_1, .int .i64 a1_2, .int .i64 a1_3, .int .i64 a1_4]) (t := 26) ?_; intro gb310 hg w5 hbox hb; have n_ := a_ (bb_ BK309 hb) (a_ (bs_ HB hb) (a_ (Aside0.mk hbox) (a_ (gs_ HB hg) (a_ (gs_ HB hg) (a_ (nl_ BK309 hg) (ng_ BK309 hg)))))); clear BK309 HB; obtain ⟨BK309, HB, BK310, GW310, GE310, NB309_310, NB310_309⟩ := n_; clear hb hbox hg) | ((with_reducible refine gate_dst (N := 4) rfl ?_); refine bx_ (N := 4) (cs := #[.int .i64 0, .slice none 0 0]) (t := 24) ?_; intro gb311 hg w6 hbox hb; have n_ := a_ (bb_ BK309 hb) (a_ (bb_ BK310 hb) (a_ (bs_ HB hb) (a_ (Aside0.mk hbox) (a_ (gs_ HB hg) (a_ (gs_ HB hg) (a_ (nl_ BK309 hg) (a_ (ng_ BK309 hg) (a_ (nl_ BK310 hg) (ng_ BK310 hg))))))))); clear BK309 BK310 HB; obtain ⟨BK309, BK310, HB, BK311, GW311, GE311, NB309_311, NB311_309, NB310_311, NB311_310⟩ := n_; clear hb hbox hg; have hnb7 := NB309_310.out; have hnc7 := NB310_309.out; have hnb8 := NB309_311.out; have hnc8 := NB311_309.out; obtain ⟨hcz9_0, hcz9_1, hfz9_0, hfz9_1⟩ := cz2_ BK309; have hnb10 := NB310_311.out; have hnc10 := NB311_310.out; obtain ⟨hcz11_0, hcz11_1, hcz11_2, hcz11_3, hcz11_4, hfz11_0, hfz11_1, hfz11_2, hfz11_3, hfz11_4⟩ := cz5_ BK310) | ((with_reducible refine gate_callee (f := 23) rfl ?_); refine goesL_ (some 13) rfl rfl Try.func23 (by kernel_rfl) rfl #[.agg #[.int .i64 a0_0, .slice A0_1 l0_1.length c0_1], .int .i64 a1_1, .int .i64 a1_2, .int .i64 a1_3] rfl MP_ ?_; (with_reducible refine (zone_Limit.calls k a0_0 _ _ l0_1 a1_1 a1_2 a1_3 t312 t313 t316 _ ?side1 ?side2 A3.out).mono ?_); (case side1 => exact sd_ (Kd.C_below HR0_1.out HB.out)); (case side2 => exact HC0_1.out); rintro e w12 ⟨v314, rfl, ho0, hb⟩; refine ⟨_, rfl, ?_⟩; have n_ := a_ (Aside0.mk (Kd.R_lower ho0 (below_size HB_))) (a_ (bb_ BK309 hb) (a_ (bb_ BK310 hb) (a_ (bb_ BK311 hb) (bs_ HB hb)))); clear BK309 BK310 BK311 HB; obtain ⟨HO315, BK309, BK310, BK311, HB⟩ := n_; (try clear hb); (try clear hb2); (try clear hk); (try clear hi); (try clear ho0); obtain ⟨hcz13_0, hcz13_1, hfz13_0, hfz13_1⟩ := cz2_ BK311; obtain ⟨Ao14, co14, eo14⟩ := Kd.R_slice HO315.out; subst eo14))
 refine bodyPost_ret (results_ct rfl _ _ gb311 24 #[.int .i64 t312, .slice Ao14 t313.length co14] (0, 0) _ rfl (bk2_ BK311.out) Try.underlying24 rfl (by kernel_rfl)) rfl ?_
 exact ⟨_, by first | rfl | (simp [errW_none, errW_some] <;> rfl) | (simp [*, errW_none, errW_some] <;> rfl), by (with_reducible repeat (first | apply Kd.R_alloc | apply Kd.R_drewN | apply Kd.R_drew)); exact Kd.R_mono (Kd.R_far (p := ⟨gb311, 1, none⟩) (Kd.R_far (p := ⟨gb311, 0, none⟩) (Kd.R_types HO315.out BK311.out (by decide)) (fun _ hk => hk.2) (.int .i64 t312)) (fun _ hk => hk.2) (.slice Ao14 t313.length co14)) (fun _ hk => trivial), HB_⟩
end Go.Proofs.Ytgeemdpflcefkaa.Y
