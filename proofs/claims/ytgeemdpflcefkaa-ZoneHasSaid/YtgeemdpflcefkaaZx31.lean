-- WRITTEN BY this session's program wip/ext.py, in print.py's manner
import Derived.Test.YtgeemdpflcefkaaZx0
import Derived.Test.YtgeemdpflcefkaaZx3
import Derived.Test.YtgeemdpflcefkaaZx30
namespace Go.Proofs.Ytgeemdpflcefkaa.Z
open Go.RowKit Go.Proofs.YtgeemdpflcefkaaW.PrintWords Go.Proofs.YtgeemdpflcefkaaW.PrintLast Go.Proofs.YtgeemdpflcefkaaW.PrintMore
attribute [local go_sem] max2_int min2_int max_two min_two max_three min_three max_four min_four   -- for this text's walks alone
set_option linter.unusedVariables false
set_option linter.unusedSimpArgs false

/-! ### dbm_All: function 87 -/
def dbm_All.f (a0 : Int) : Option (Int × List Int × Int) := (dbm_vars.f a0).bind fun t293 => (if t293 = true then ((dbm_size.f a0).bind fun t294 => (if 0 ≤ t294 then (if (t294 : Int).toNat ≤ 35184372088832 then ((dbm_grid_each.f a0 (List.replicate (t294 : Int).toNat 0)).bind fun t299 => (some (a0, t299, 0))) else (none)) else (none))) else (some (0, ([] : List Int), 1)))
set_option maxHeartbeats 8000000 in
set_option maxRecDepth 100000 in
theorem dbm_All.calls (a0 : Int) (r1 : Int) (r2 : List Int) (r3 : Int) (w : World) (h : dbm_All.f a0 = some (r1, r2, r3)) :
    Calls Try.prog 87 #[.int .i64 a0] w fun e w' => ∃ v1_ : Value, e = .returned (.tuple #[.agg #[.int .i64 r1, v1_], .int .i64 r3]) ∧ Kd.R (Kd.int .i64) 3 w' w.heap.size (fun _ => True) v1_ r2 ∧ Below w.heap.size w w' := by
  have hu24 := Try.underlying24
  have hu94 := Try.underlying94
  have HB := Aside0.mk (Below.refl w.heap.size w)
  have H : ((dbm_vars.f a0).bind fun t293 => (if t293 = true then ((dbm_size.f a0).bind fun t294 => (if 0 ≤ t294 then (if (t294 : Int).toNat ≤ 35184372088832 then ((dbm_grid_each.f a0 (List.replicate (t294 : Int).toNat 0)).bind fun t299 => (some (a0, t299, 0))) else (none)) else (none))) else (some (0, ([] : List Int), 1)))) = some (r1, r2, r3) := h
  clear h
  replace H := Option.bind_eq_some_iff.mp H
  obtain ⟨t293, A20, H⟩ := H
  replace H : (if t293 = true then ((dbm_size.f a0).bind fun t294 => (if 0 ≤ t294 then (if (t294 : Int).toNat ≤ 35184372088832 then ((dbm_grid_each.f a0 (List.replicate (t294 : Int).toNat 0)).bind fun t299 => (some (a0, t299, 0))) else (none)) else (none))) else (some (0, ([] : List Int), 1))) = some (r1, r2, r3) := H
  have A2 := Aside0.mk A20
  clear A20
  by_cases c3 : t293 = true
  rotate_left
  · replace c3 := Bool.eq_false_iff.mpr c3
    subst c3
    have H1 : (some (0, ([] : List Int), 1)) = some (r1, r2, r3) := by rw [if_neg (show ¬ (false = true) by decide)] at H; exact H
    clear H
    have H := H1
    clear H1
    simp only [Option.some.injEq, Prod.mk.injEq] at H
    obtain ⟨rfl, rfl, rfl⟩ := H
    go_enter Try.func87, Try.ntmps87
    go_wp2_with (first | ((with_reducible refine gate_dst (N := 2) rfl ?_); refine bx_ (N := 2) (cs := #[.int .i64 0, .slice none 0 0]) (t := 24) ?_; intro gb292 hg w20 hbox hb; have n_ := a_ (bs_ HB hb) (a_ (Aside0.mk hbox) (a_ (gs_ HB hg) (gs_ HB hg))); clear HB; obtain ⟨HB, BK292, GW292, GE292⟩ := n_; clear hb hbox hg) | ((with_reducible refine gate_callee (f := 107) rfl ?_); refine goesL_ (some 6) rfl rfl Try.func107 (by kernel_rfl) rfl #[.int .i64 a0] rfl MP_ ?_; (with_reducible refine (dbm_vars.calls a0 false _ A2.out).mono ?_); rintro e w' ⟨rfl, ⟨nd, rfl⟩⟩; refine ⟨_, rfl, ?_⟩; (try (rw [drewN_self w20]; generalize hq_ : World.drewN w20 _ = w20; have n0_ : Aside0 (w20.heap[gb292]? = some (.cells #[.int .i64 0, .slice none 0 0] 24 (0, 0))) := ⟨by rw [← hq_]; exact (bk_ BK292.out)⟩; have n1_ : Aside0 (Below w.heap.size w w20) := ⟨by rw [← hq_]; exact HB_⟩; clear BK292 HB hq_; have BK292 := n0_; have HB := n1_; clear n0_ n1_; (try (obtain ⟨hczu_gb292_0, hczu_gb292_1, hfzu_gb292_0, hfzu_gb292_1⟩ := cz2_ BK292)))); obtain ⟨hcz21_0, hcz21_1, hfz21_0, hfz21_1⟩ := cz2_ BK292))
    refine bodyPost_ret (results_ct rfl _ _ gb292 24 #[.int .i64 0, .slice none 0 0] (0, 0) _ rfl (bk2_ BK292.out) Try.underlying24 rfl (by kernel_rfl)) rfl ?_
    exact ⟨_, by first | rfl | (simp [errW_none, errW_some] <;> rfl) | (simp [*, errW_none, errW_some] <;> rfl), by first | exact Kd.R_nil _ _ _ _ _ | exact Kd.N_nil _ _ _ _ _ | exact Kd.V_nil _ _ _ _ _ | exact Kd.Q_nil _ _ _ _ _ | exact Kd.S_nil _ _ _ _ _, HB_⟩

  subst c3
  have H1 : ((dbm_size.f a0).bind fun t294 => (if 0 ≤ t294 then (if (t294 : Int).toNat ≤ 35184372088832 then ((dbm_grid_each.f a0 (List.replicate (t294 : Int).toNat 0)).bind fun t299 => (some (a0, t299, 0))) else (none)) else (none))) = some (r1, r2, r3) := by rw [if_pos rfl] at H; exact H
  clear H
  have H := H1
  clear H1
  replace H := Option.bind_eq_some_iff.mp H
  obtain ⟨t294, A40, H⟩ := H
  replace H : (if 0 ≤ t294 then (if (t294 : Int).toNat ≤ 35184372088832 then ((dbm_grid_each.f a0 (List.replicate (t294 : Int).toNat 0)).bind fun t299 => (some (a0, t299, 0))) else (none)) else (none)) = some (r1, r2, r3) := H
  have A4 := Aside0.mk A40
  clear A40
  replace H := yes_ H
  obtain ⟨c5, H⟩ := H
  have c5b0 := eq_true c5
  have c5b1 : decide (0 ≤ t294) = true := decide_eq_true c5
  clear c5
  replace H := yes_ H
  obtain ⟨c6, H⟩ := H
  have c6b0 := eq_true c6
  have c6b1 : decide ((t294 : Int).toNat ≤ 35184372088832) = true := decide_eq_true c6
  clear c6
  obtain ⟨y295, hy295⟩ : ∃ y_ : List Int, y_ = (List.replicate (t294 : Int).toNat 0) := ⟨_, rfl⟩
  replace H : ((dbm_grid_each.f a0 y295).bind fun t299 => (some (a0, t299, 0))) = some (r1, r2, r3) := by first | (rw [hy295]; with_reducible exact H) | (have H2_ := (Option.bind_some _ _).symm.trans H; rw [hy295]; with_reducible exact H2_) | (have H2_ := (Option.bind_some _ _).symm.trans H; with_reducible exact H2_) | with_reducible exact H | (rw [hy295]; exact H) | exact H
  have Ny295 := Aside0.mk hy295
  clear hy295
  replace H := Option.bind_eq_some_iff.mp H
  obtain ⟨t299, A70, H⟩ := H
  replace H : (some (a0, t299, 0)) = some (r1, r2, r3) := H
  have A7 := Aside0.mk A70
  clear A70
  simp only [Option.some.injEq, Prod.mk.injEq] at H
  obtain ⟨rfl, rfl, rfl⟩ := H
  go_enter Try.func87, Try.ntmps87
  go_wp2_with (first | ((with_reducible refine gate_dst (N := 2) rfl ?_); refine bx_ (N := 2) (cs := #[.int .i64 0, .slice none 0 0]) (t := 24) ?_; intro gb292 hg w8 hbox hb; have n_ := a_ (bs_ HB hb) (a_ (Aside0.mk hbox) (a_ (gs_ HB hg) (gs_ HB hg))); clear HB; obtain ⟨HB, BK292, GW292, GE292⟩ := n_; clear hb hbox hg) | ((with_reducible refine gate_callee (f := 107) rfl ?_); refine goesL_ (some 6) rfl rfl Try.func107 (by kernel_rfl) rfl #[.int .i64 a0] rfl MP_ ?_; (with_reducible refine (dbm_vars.calls a0 true _ A2.out).mono ?_); rintro e w' ⟨rfl, ⟨nd, rfl⟩⟩; refine ⟨_, rfl, ?_⟩; (try (rw [drewN_self w8]; generalize hq_ : World.drewN w8 _ = w8; have n0_ : Aside0 (w8.heap[gb292]? = some (.cells #[.int .i64 0, .slice none 0 0] 24 (0, 0))) := ⟨by rw [← hq_]; exact (bk_ BK292.out)⟩; have n1_ : Aside0 (Below w.heap.size w w8) := ⟨by rw [← hq_]; exact HB_⟩; clear BK292 HB hq_; have BK292 := n0_; have HB := n1_; clear n0_ n1_; (try (obtain ⟨hczu_gb292_0, hczu_gb292_1, hfzu_gb292_0, hfzu_gb292_1⟩ := cz2_ BK292))))) | ((with_reducible refine gate_callee (f := 108) rfl ?_); refine goesL_ (some 11) rfl rfl Try.func108 (by kernel_rfl) rfl #[.int .i64 a0] rfl MP_ ?_; (with_reducible refine (dbm_size.calls a0 t294 _ A4.out).mono ?_); rintro e w' ⟨rfl, ⟨nd, rfl⟩⟩; refine ⟨_, rfl, ?_⟩; (try (rw [drewN_self w8]; generalize hq_ : World.drewN w8 _ = w8; have n0_ : Aside0 (w8.heap[gb292]? = some (.cells #[.int .i64 0, .slice none 0 0] 24 (0, 0))) := ⟨by rw [← hq_]; exact (bk_ BK292.out)⟩; have n1_ : Aside0 (Below w.heap.size w w8) := ⟨by rw [← hq_]; exact HB_⟩; clear BK292 HB hq_; have BK292 := n0_; have HB := n1_; clear n0_ n1_; (try (obtain ⟨hczu_gb292_0, hczu_gb292_1, hfzu_gb292_0, hfzu_gb292_1⟩ := cz2_ BK292))))) | ((with_reducible refine gate_dst (N := 12) rfl ?_); refine Kd.R_make (Kd.int .i64) _ 3 rfl (N := 12) rfl 22 _ _ rfl t294 rfl rfl Try.underlying22 (.int .i64 0) 8 info3 rfl (by decide) (by omega) 0 (ok := fun _ => True) (okp := fun _ => True) rfl (fun _ hk => hk) trivial (of_decide_eq_true (by first | (with_reducible assumption) | assumption)) (Nat.le_trans (Nat.mul_le_mul_right _ (of_decide_eq_true (by first | (with_reducible assumption) | assumption) : t294.toNat ≤ 35184372088832)) (by omega)) (Below.refl _ _) (Nat.le_refl _) ?_; intro v296 w9 ho10 hb hg_ hnew_; clear hg_ hnew_; (first | rw [← Ny295.out] at ho10 | (simp only [Int.reduceToNat] at ho10; rw [← Ny295.out] at ho10)); have n_ := a_ (Aside0.mk (Kd.R_lower ho10 (below_size HB_))) (a_ (bb_ BK292 hb) (bs_ HB hb)); clear BK292 HB; obtain ⟨HO297, BK292, HB⟩ := n_; clear hb ho10; obtain ⟨Ao11, co11, eo11⟩ := Kd.R_slice HO297.out; subst eo11) | ((with_reducible refine gate_dst (N := 4) rfl ?_); refine bx_ (N := 4) (cs := #[.int .i64 0, .slice none 0 0]) (t := 94) ?_; intro gb298 hg w12 hbox hb; have n_ := a_ (rb_ HO297 hb) (a_ (bb_ BK292 hb) (a_ (bs_ HB hb) (a_ (Aside0.mk hbox) (a_ (gs_ HB hg) (a_ (gs_ HB hg) (a_ (nl_ BK292 hg) (ng_ BK292 hg))))))); clear HO297 BK292 HB; obtain ⟨HO297, BK292, HB, BK298, GW298, GE298, NB292_298, NB298_292⟩ := n_; clear hb hbox hg; have hnb13 := NB298_292.out; have hnc13 := NB292_298.out; obtain ⟨hcz14_0, hcz14_1, hfz14_0, hfz14_1⟩ := cz2_ BK298) | ((with_reducible refine gate_store (t := 94) (p := 4) rfl ?_); refine store_event (t := 94) (p := 4) (v := ?vo_w15) (w1 := ((w12.setCell ⟨gb298, 0, none⟩ (.int .i64 a0)).setCell ⟨gb298, 1, none⟩ (.slice Ao11 y295.length co11))) ?hg ?ho ?hn ?hr ?_; (case ho => rfl); (case hg => rfl); (case hn => rfl); (case hr => first | (go_simp; done) | (go_simp; rfl)); intro w15 hw; have n0_ : Aside0 (Kd.R (Kd.int .i64) 3 w15 w.heap.size (fun _ => True) (.slice Ao11 y295.length co11) y295) := ⟨(by rw [hw]; exact (rd_ (Kd.R_mono (Kd.R_far (p := ⟨gb298, 1, none⟩) (Kd.R_far (p := ⟨gb298, 0, none⟩) (Kd.R_types HO297.out BK298.out (by decide)) (fun _ hk => hk.2) (.int .i64 a0)) (fun _ hk => hk.2) (.slice Ao11 y295.length co11)) (fun _ hk => trivial))))⟩; have n1_ : Aside0 (w15.heap[gb292]? = some (.cells #[.int .i64 0, .slice none 0 0] 24 (0, 0))) := ⟨(by rw [hw]; exact (bk2_ BK292.out))⟩; have n2_ : Aside0 (w15.heap[gb298]? = some (.cells #[.int .i64 a0, .slice Ao11 y295.length co11] 94 (0, 0))) := ⟨(by rw [hw]; exact (bk2_ BK298.out))⟩; have n3_ : Aside0 (Below w.heap.size w w15) := ⟨(by rw [hw]; exact HB_)⟩; clear hw; clear HO297; clear BK292; clear BK298; clear HB; have HO297 := n0_; have BK292 := n1_; have BK298 := n2_; have HB := n3_; clear n0_ n1_ n2_ n3_; obtain ⟨hcz16_0, hcz16_1, hfz16_0, hfz16_1⟩ := cz2_ BK298) | ((with_reducible refine gate_callee (f := 109) rfl ?_); refine goesL_ (some 15) rfl rfl Try.func109 (by kernel_rfl) rfl #[.agg #[.int .i64 a0, .slice Ao11 y295.length co11], .func (.func 110) #[] #[]] rfl MP_ ?_; (with_reducible refine (dbm_grid_each.calls a0 (fun k_ => some k_ = (.slice Ao11 y295.length co11 : Value).ownBlock) (.slice Ao11 y295.length co11) y295 t299 w _ ?side1 ?side2 A7.out).mono ?_); (case side1 => repeat (first | (with_reducible first | exact HB.out | apply below_alloc | apply pw_below_drewN | apply below_drew1 | refine below_set ?_ GE292.out | refine below_set ?_ GE298.out) | exact HB.out)); (case side2 => exact Kd.R_tight rfl HO297.out); rintro e w17 ⟨rfl, hy0, hb, hkp⟩; refine ⟨_, rfl, ?_⟩; have n_ := a_ (Aside0.mk (blk_kept (bk_ BK292.out) hkp (fun hs_ => (fun e_ => (Kd.R_ne HO297.out BK292.out (by decide)) e_) hs_))) (a_ (Aside0.mk (Kd.R_reok rfl hy0 (fun k_ e_ => HO297.out.1 k_ e_))) (a_ (Aside0.mk (blk_kept (bk_ BK298.out) hkp (fun hs_ => (fun e_ => (Kd.R_ne HO297.out BK298.out (by decide)) e_) hs_))) (Aside0.mk hb))); clear BK292 HO297 BK298 HB; obtain ⟨BK292, HO297, BK298, HB⟩ := n_; (try clear hb); (try clear hkp); (try clear hy0); obtain ⟨hcz18_0, hcz18_1, hfz18_0, hfz18_1⟩ := cz2_ BK298; obtain ⟨hcz19_0, hcz19_1, hfz19_0, hfz19_1⟩ := cz2_ BK292))
  refine bodyPost_ret (results_ct rfl _ _ gb292 24 #[.int .i64 a0, .slice Ao11 y295.length co11] (0, 0) _ rfl (bk2_ BK292.out) Try.underlying24 rfl (by kernel_rfl)) rfl ?_
  exact ⟨_, by first | rfl | (simp [errW_none, errW_some] <;> rfl) | (simp [*, errW_none, errW_some] <;> rfl), by (with_reducible repeat (first | apply Kd.R_alloc | apply Kd.R_drewN | apply Kd.R_drew)); exact Kd.R_mono (Kd.R_far (p := ⟨gb292, 1, none⟩) (Kd.R_far (p := ⟨gb292, 0, none⟩) (Kd.R_types HO297.out BK292.out (by decide)) (fun _ hk => hk.2) (.int .i64 a0)) (fun _ hk => hk.2) (.slice Ao11 y295.length co11)) (fun _ hk => trivial), HB_⟩
end Go.Proofs.Ytgeemdpflcefkaa.Z
