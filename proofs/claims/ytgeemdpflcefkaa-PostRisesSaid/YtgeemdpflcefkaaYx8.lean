import Derived.Test.YtgeemdpflcefkaaYx0
import Derived.Test.YtgeemdpflcefkaaYx3
import Derived.Test.YtgeemdpflcefkaaYx7
namespace Go.Proofs.Ytgeemdpflcefkaa.Y
open Go.RowKit Go.Proofs.YtgeemdpflcefkaaW.PrintWords Go.Proofs.YtgeemdpflcefkaaW.PrintLast Go.Proofs.YtgeemdpflcefkaaW.PrintMore
attribute [local go_sem] max2_int min2_int max_two min_two max_three min_three max_four min_four   -- for this text's walks alone
set_option linter.unusedVariables false
set_option linter.unusedSimpArgs false
def dbm_Close.j0 : Nat → Int → List Int → Bool → Option (Int × List Int × Int)
 | 0, _, _, _ => none
 | k + 1, x0, x1, x16 => if x16 = true then (some (0, ([] : List Int), 1)) else ((slices_Clone_int_int.f x1).bind fun t116 => ((dbm_grid_close.f x0 t116).bind fun bt120 => (if bt120.1 = true then (some (x0, bt120.2, 0)) else (some (x0, ([] : List Int), 0)))))
def dbm_Close.f (k : Nat) (a0 : Int) (l1 : List Int) : Option (Int × List Int × Int) := (dbm_vars.f a0).bind fun t114 => (if t114 = true then ((dbm_size.f a0).bind fun t115 => (dbm_Close.j0 k a0 l1 ((l1.length : Int) != t115))) else (dbm_Close.j0 k a0 l1 true))
theorem dbm_Close.mono_l : ∀ k, (∀ y0 y1 y2, LeO (dbm_Close.j0 k y0 y1 y2) (dbm_Close.j0 (k + 1) y0 y1 y2))
 | 0 => fun _ _ _ r h => by simp [dbm_Close.j0] at h
 | k + 1 => by
  have ih0 := dbm_Close.mono_l k
  · intro y0 y1 y2
    unfold dbm_Close.j0
    repeat' first
    | (with_reducible exact ih0 _ _ _)
    | (with_reducible exact LeO.refl _)
    | (with_reducible exact LeO.none _)
    | (with_reducible refine LeO.ite ?_ ?_)
    | (with_reducible refine LeO.bind ?_ (fun _ => ?_))
    | exact ih0 _ _ _
    | exact LeO.none _
    | refine LeO.ite ?_ ?_
    | refine LeO.bind ?_ (fun _ => ?_)
theorem dbm_Close.mono : ∀ a0 a1 k, LeO (dbm_Close.f k a0 a1) (dbm_Close.f (k + 1) a0 a1) := by
 intro a0 a1 k
 have ih0 := dbm_Close.mono_l k
 unfold dbm_Close.f
 repeat' first
  | (with_reducible exact ih0 _ _ _)
  | (with_reducible exact LeO.refl _)
  | (with_reducible exact LeO.none _)
  | (with_reducible refine LeO.ite ?_ ?_)
  | (with_reducible refine LeO.bind ?_ (fun _ => ?_))
  | exact ih0 _ _ _
  | exact LeO.none _
  | refine LeO.ite ?_ ?_
  | refine LeO.bind ?_ (fun _ => ?_)
set_option maxHeartbeats 8000000 in
set_option maxRecDepth 100000 in
theorem dbm_Close.calls (k : Nat) (a0 : Int) (A1 : Option Addr) (c1 : Nat) (l1 : List Int) (r1 : Int) (r2 : List Int) (r3 : Int) (w : World) (hr1 : Kd.C (Kd.int .i64) w A1 l1.length l1) (hc1 : l1.length ≤ c1) (h : dbm_Close.f k a0 l1 = some (r1, r2, r3)) :
  Calls Try.prog 88 #[.int .i64 a0, .slice A1 l1.length c1] w fun e w' => ∃ v1_ : Value, e = .returned (.tuple #[.agg #[.int .i64 r1, v1_], .int .i64 r3]) ∧ Kd.R (Kd.int .i64) 3 w' w.heap.size (fun _ => True) v1_ r2 ∧ Below w.heap.size w w' := by
 have hu24 := Try.underlying24
 have hu94 := Try.underlying94
 have HR1 := Aside0.mk hr1
 have HC1 := Aside0.mk hc1
 clear hr1 hc1
 have HB := Aside0.mk (Below.refl w.heap.size w)
 have H : ((dbm_vars.f a0).bind fun t114 => (if t114 = true then ((dbm_size.f a0).bind fun t115 => (dbm_Close.j0 k a0 l1 ((l1.length : Int) != t115))) else (dbm_Close.j0 k a0 l1 true))) = some (r1, r2, r3) := h
 clear h
 have HC3 := Aside0.mk H
 clear H
 go_enter Try.func88, Try.ntmps88
 go_upto_region 1 with (first | ((with_reducible refine gate_dst (N := 4) rfl ?_); (try (refine gate_guard (by rfl) ?_; dsimp only)); refine bx_ (N := 4) (cs := #[.int .i64 0, .slice none 0 0]) (t := 24) ?_; intro gb113 hg w4 hbox hb; have n_ := a_ (bs_ HB hb) (a_ (Aside0.mk hbox) (a_ (gs_ HB hg) (gs_ HB hg))); clear HB; obtain ⟨HB, BK113, GW113, GE113⟩ := n_; clear hb hbox hg))
 (try simp only [Act.put, List.setIfInBounds_toArray, List.set_cons_zero, List.set_cons_succ])
 go_cut [16] (fun v16 wc => ∃ (kq : Nat) (x16_2 : Bool), v16 = .bool x16_2 ∧ Aside0 (dbm_Close.j0 kq a0 l1 x16_2 = some (r1, r2, r3)) ∧ Aside0 (kq ≤ k) ∧ Aside0 (wc.heap[gb113]? = some (.cells #[.int .i64 0, (.slice none 0 0)] 24 (0, 0))) ∧ Aside0 (Below w.heap.size w wc))
 case first =>
  have H := HC3.out
  clear HC3
  replace H := Option.bind_eq_some_iff.mp H
  obtain ⟨t114, A50, H⟩ := H
  replace H : (if t114 = true then ((dbm_size.f a0).bind fun t115 => (dbm_Close.j0 k a0 l1 ((l1.length : Int) != t115))) else (dbm_Close.j0 k a0 l1 true)) = some (r1, r2, r3) := H
  have A5 := Aside0.mk A50
  clear A50
  by_cases c6 : t114 = true
  rotate_left
  · replace c6 := Bool.eq_false_iff.mpr c6
    subst c6
    have H1 : (dbm_Close.j0 k a0 l1 true) = some (r1, r2, r3) := by rw [if_neg (show ¬ (false = true) by decide)] at H; exact H
    clear H
    have H := H1
    clear H1
    have H' := Aside0.mk H
    clear H
    go_wp2_with (first | ((with_reducible refine gate_callee (f := 107) rfl ?_); refine goesL_ (some 8) rfl rfl Try.func107 (by kernel_rfl) rfl #[.int .i64 a0] rfl MP_ ?_; (with_reducible refine (dbm_vars.calls a0 false _ A5.out).mono ?_); rintro e w' ⟨rfl, ⟨nd, rfl⟩⟩; refine ⟨_, rfl, ?_⟩))
    go_meet
    case rel => exact ⟨_, (true), (by first | rfl | (simp; done) | (simp [*]; done)), H', ⟨by first | omega | exact Nat.le_refl _⟩, ⟨by (with_reducible repeat (first | refine blk_drewN ?_ _ | refine blk_drew ?_ | refine blk_alloc ?_ _)); exact BK113.out⟩, ⟨HB_⟩⟩
  subst c6
  have H1 : ((dbm_size.f a0).bind fun t115 => (dbm_Close.j0 k a0 l1 ((l1.length : Int) != t115))) = some (r1, r2, r3) := by rw [if_pos rfl] at H; exact H
  clear H
  have H := H1
  clear H1
  replace H := Option.bind_eq_some_iff.mp H
  obtain ⟨t115, A70, H⟩ := H
  replace H : (dbm_Close.j0 k a0 l1 ((l1.length : Int) != t115)) = some (r1, r2, r3) := H
  have A7 := Aside0.mk A70
  clear A70
  have H' := Aside0.mk H
  clear H
  go_wp2_with (first | ((with_reducible refine gate_callee (f := 107) rfl ?_); refine goesL_ (some 8) rfl rfl Try.func107 (by kernel_rfl) rfl #[.int .i64 a0] rfl MP_ ?_; (with_reducible refine (dbm_vars.calls a0 true _ A5.out).mono ?_); rintro e w' ⟨rfl, ⟨nd, rfl⟩⟩; refine ⟨_, rfl, ?_⟩) | (go_at_call 108; (with_reducible refine (dbm_size.calls a0 t115 _ A7.out).mono ?_); rintro e w' ⟨rfl, ⟨nd, rfl⟩⟩))
  go_meet
  case rel => exact ⟨_, (((l1.length : Int) != t115)), (by first | rfl | (simp; done) | (simp [*]; done)), H', ⟨by first | omega | exact Nat.le_refl _⟩, ⟨by (with_reducible repeat (first | refine blk_drewN ?_ _ | refine blk_drew ?_ | refine blk_alloc ?_ _)); exact BK113.out⟩, ⟨HB_⟩⟩
 case rest =>
  clear HC3
  try clear c1
  try clear p2
  try clear c6
  obtain ⟨kq, x16_2, rfl, HA, HJ2, BK113, HB⟩ := hcut
  cases kq with
  | zero => exact absurd HA.out (by simp [dbm_Close.j0])
  | succ kj2 =>
    have H := HA.out
    clear HA
    simp only [dbm_Close.j0] at H
    by_cases c8 : x16_2 = true
    · subst c8
      have H1 : (some (0, ([] : List Int), 1)) = some (r1, r2, r3) := by rw [if_pos rfl] at H; exact H
      clear H
      have H := H1
      clear H1
      simp only [Option.some.injEq, Prod.mk.injEq] at H
      obtain ⟨rfl, rfl, rfl⟩ := H
      obtain ⟨hcz9_0, hcz9_1, hfz9_0, hfz9_1⟩ := cz2_ BK113
      go_wp2
      refine bodyPost_ret (results_ct rfl _ _ gb113 24 #[.int .i64 0, .slice none 0 0] (0, 0) _ rfl (bk2_ BK113.out) Try.underlying24 rfl (by kernel_rfl)) rfl ?_
      exact ⟨_, by first | rfl | (simp [errW_none, errW_some] <;> rfl) | (simp [*, errW_none, errW_some] <;> rfl), by first | exact Kd.R_nil _ _ _ _ _ | exact Kd.N_nil _ _ _ _ _ | exact Kd.V_nil _ _ _ _ _ | exact Kd.Q_nil _ _ _ _ _ | exact Kd.S_nil _ _ _ _ _, HB_⟩
    replace c8 := Bool.eq_false_iff.mpr c8
    subst c8
    have H1 : ((slices_Clone_int_int.f l1).bind fun t116 => ((dbm_grid_close.f a0 t116).bind fun bt120 => (if bt120.1 = true then (some (a0, bt120.2, 0)) else (some (a0, ([] : List Int), 0))))) = some (r1, r2, r3) := by rw [if_neg (show ¬ (false = true) by decide)] at H; exact H
    clear H
    have H := H1
    clear H1
    replace H := Option.bind_eq_some_iff.mp H
    obtain ⟨t116, A100, H⟩ := H
    replace H : ((dbm_grid_close.f a0 t116).bind fun bt120 => (if bt120.1 = true then (some (a0, bt120.2, 0)) else (some (a0, ([] : List Int), 0)))) = some (r1, r2, r3) := H
    have A10 := Aside0.mk A100
    clear A100
    replace H := Option.bind_eq_some_iff.mp H
    obtain ⟨⟨t120, t121⟩, A110, H⟩ := H
    replace H : (if t120 = true then (some (a0, t121, 0)) else (some (a0, ([] : List Int), 0))) = some (r1, r2, r3) := H
    have A11 := Aside0.mk A110
    clear A110
    by_cases c12 : t120 = true
    · subst c12
      have H1 : (some (a0, t121, 0)) = some (r1, r2, r3) := by rw [if_pos rfl] at H; exact H
      clear H
      have H := H1
      clear H1
      simp only [Option.some.injEq, Prod.mk.injEq] at H
      obtain ⟨rfl, rfl, rfl⟩ := H
      go_wp2_with (first | ((with_reducible refine gate_callee (f := 85) rfl ?_); refine goesL_ (some 20) rfl rfl Try.func85 (by kernel_rfl) rfl #[.slice A1 l1.length c1] rfl MP_ ?_; (with_reducible refine (slices_Clone_int_int.calls _ _ l1 t116 _ ?side1 ?side2 A10.out).mono ?_); (case side1 => exact sd_ (Kd.C_below HR1.out HB.out)); (case side2 => exact HC1.out); rintro e w13 ⟨v117, rfl, ho0, hb⟩; refine ⟨_, rfl, ?_⟩; have n_ := a_ (Aside0.mk (Kd.R_lower ho0 (below_size HB_))) (a_ (bb_ BK113 hb) (bs_ HB hb)); clear BK113 HB; obtain ⟨HO118, BK113, HB⟩ := n_; (try clear hb); (try clear hb2); (try clear hk); (try clear hi); (try clear ho0); obtain ⟨Ao14, co14, eo14⟩ := Kd.R_slice HO118.out; subst eo14) | ((with_reducible refine gate_dst (N := 6) rfl ?_); (try (refine gate_guard (by rfl) ?_; dsimp only)); refine bx_ (N := 6) (cs := #[.int .i64 0, .slice none 0 0]) (t := 94) ?_; intro gb119 hg w15 hbox hb; have n_ := a_ (rb_ HO118 hb) (a_ (bb_ BK113 hb) (a_ (bs_ HB hb) (a_ (Aside0.mk hbox) (a_ (gs_ HB hg) (a_ (gs_ HB hg) (a_ (nl_ BK113 hg) (ng_ BK113 hg))))))); clear HO118 BK113 HB; obtain ⟨HO118, BK113, HB, BK119, GW119, GE119, NB113_119, NB119_113⟩ := n_; clear hb hbox hg; have hnb16 := NB119_113.out; have hnc16 := NB113_119.out; obtain ⟨hcz17_0, hcz17_1, hfz17_0, hfz17_1⟩ := cz2_ BK119) | ((with_reducible refine gate_store (t := 94) (p := 6) rfl ?_); refine store_event (t := 94) (p := 6) (v := ?vo_w18) (w1 := ((w15.setCell ⟨gb119, 0, none⟩ (.int .i64 a0)).setCell ⟨gb119, 1, none⟩ (.slice Ao14 t116.length co14))) ?hg ?ho ?hn ?hr ?_; (case ho => rfl); (case hg => rfl); (case hn => rfl); (case hr => first | (go_simp; done) | (go_simp; rfl)); intro w18 hw; have n0_ : Aside0 (Kd.R (Kd.int .i64) 3 w18 w.heap.size (fun _ => True) (.slice Ao14 t116.length co14) t116) := ⟨(by rw [hw]; exact (rd_ (Kd.R_mono (Kd.R_far (p := ⟨gb119, 1, none⟩) (Kd.R_far (p := ⟨gb119, 0, none⟩) (Kd.R_types HO118.out BK119.out (by decide)) (fun _ hk => hk.2) (.int .i64 a0)) (fun _ hk => hk.2) (.slice Ao14 t116.length co14)) (fun _ hk => trivial))))⟩; have n1_ : Aside0 (w18.heap[gb113]? = some (.cells #[.int .i64 0, .slice none 0 0] 24 (0, 0))) := ⟨(by rw [hw]; exact (bk2_ BK113.out))⟩; have n2_ : Aside0 (w18.heap[gb119]? = some (.cells #[.int .i64 a0, .slice Ao14 t116.length co14] 94 (0, 0))) := ⟨(by rw [hw]; exact (bk2_ BK119.out))⟩; have n3_ : Aside0 (Below w.heap.size w w18) := ⟨(by rw [hw]; exact HB_)⟩; clear hw; clear HO118; clear BK113; clear BK119; clear HB; have HO118 := n0_; have BK113 := n1_; have BK119 := n2_; have HB := n3_; clear n0_ n1_ n2_ n3_; obtain ⟨hcz19_0, hcz19_1, hfz19_0, hfz19_1⟩ := cz2_ BK119) | ((with_reducible refine gate_callee (f := 111) rfl ?_); refine goesL_ (some 23) rfl rfl Try.func111 (by kernel_rfl) rfl #[.agg #[.int .i64 a0, .slice Ao14 t116.length co14]] rfl MP_ ?_; (with_reducible refine (dbm_grid_close.calls a0 (fun k_ => some k_ = (.slice Ao14 t116.length co14 : Value).ownBlock) (.slice Ao14 t116.length co14) t116 true t121 w _ ?side1 ?side2 A11.out).mono ?_); (case side1 => repeat (first | (with_reducible first | exact HB.out | apply below_alloc | apply pw_below_drewN | apply below_drew1 | refine below_set ?_ GE113.out | refine below_set ?_ GE119.out) | exact HB.out)); (case side2 => exact Kd.R_tight rfl HO118.out); rintro e w20 ⟨rfl, hy0, hb, hkp⟩; refine ⟨_, rfl, ?_⟩; have n_ := a_ (Aside0.mk (blk_kept (bk_ BK113.out) hkp (fun hs_ => (fun e_ => (Kd.R_ne HO118.out BK113.out (by decide)) e_) hs_))) (a_ (Aside0.mk (Kd.R_reok rfl hy0 (fun k_ e_ => HO118.out.1 k_ e_))) (a_ (Aside0.mk (blk_kept (bk_ BK119.out) hkp (fun hs_ => (fun e_ => (Kd.R_ne HO118.out BK119.out (by decide)) e_) hs_))) (Aside0.mk hb))); clear BK113 HO118 BK119 HB; obtain ⟨BK113, HO118, BK119, HB⟩ := n_; (try clear hb); (try clear hkp); (try clear hy0); obtain ⟨hcz21_0, hcz21_1, hfz21_0, hfz21_1⟩ := cz2_ BK119; obtain ⟨hcz22_0, hcz22_1, hfz22_0, hfz22_1⟩ := cz2_ BK113))
      refine bodyPost_ret (results_ct rfl _ _ gb113 24 #[.int .i64 a0, .slice Ao14 t116.length co14] (0, 0) _ rfl (bk2_ BK113.out) Try.underlying24 rfl (by kernel_rfl)) rfl ?_
      exact ⟨_, by first | rfl | (simp [errW_none, errW_some] <;> rfl) | (simp [*, errW_none, errW_some] <;> rfl), by (with_reducible repeat (first | apply Kd.R_alloc | apply Kd.R_drewN | apply Kd.R_drew)); exact Kd.R_mono (Kd.R_far (p := ⟨gb113, 1, none⟩) (Kd.R_far (p := ⟨gb113, 0, none⟩) (Kd.R_types HO118.out BK113.out (by decide)) (fun _ hk => hk.2) (.int .i64 a0)) (fun _ hk => hk.2) (.slice Ao14 t116.length co14)) (fun _ hk => trivial), HB_⟩
    replace c12 := Bool.eq_false_iff.mpr c12
    subst c12
    have H1 : (some (a0, ([] : List Int), 0)) = some (r1, r2, r3) := by rw [if_neg (show ¬ (false = true) by decide)] at H; exact H
    clear H
    have H := H1
    clear H1
    simp only [Option.some.injEq, Prod.mk.injEq] at H
    obtain ⟨rfl, rfl, rfl⟩ := H
    go_wp2_with (first | ((with_reducible refine gate_callee (f := 85) rfl ?_); refine goesL_ (some 20) rfl rfl Try.func85 (by kernel_rfl) rfl #[.slice A1 l1.length c1] rfl MP_ ?_; (with_reducible refine (slices_Clone_int_int.calls _ _ l1 t116 _ ?side1 ?side2 A10.out).mono ?_); (case side1 => exact sd_ (Kd.C_below HR1.out HB.out)); (case side2 => exact HC1.out); rintro e w23 ⟨v117, rfl, ho0, hb⟩; refine ⟨_, rfl, ?_⟩; have n_ := a_ (Aside0.mk (Kd.R_lower ho0 (below_size HB_))) (a_ (bb_ BK113 hb) (bs_ HB hb)); clear BK113 HB; obtain ⟨HO118, BK113, HB⟩ := n_; (try clear hb); (try clear hb2); (try clear hk); (try clear hi); (try clear ho0); obtain ⟨Ao24, co24, eo24⟩ := Kd.R_slice HO118.out; subst eo24) | ((with_reducible refine gate_dst (N := 6) rfl ?_); (try (refine gate_guard (by rfl) ?_; dsimp only)); refine bx_ (N := 6) (cs := #[.int .i64 0, .slice none 0 0]) (t := 94) ?_; intro gb119 hg w25 hbox hb; have n_ := a_ (rb_ HO118 hb) (a_ (bb_ BK113 hb) (a_ (bs_ HB hb) (a_ (Aside0.mk hbox) (a_ (gs_ HB hg) (a_ (gs_ HB hg) (a_ (nl_ BK113 hg) (ng_ BK113 hg))))))); clear HO118 BK113 HB; obtain ⟨HO118, BK113, HB, BK119, GW119, GE119, NB113_119, NB119_113⟩ := n_; clear hb hbox hg; have hnb26 := NB119_113.out; have hnc26 := NB113_119.out; obtain ⟨hcz27_0, hcz27_1, hfz27_0, hfz27_1⟩ := cz2_ BK119) | ((with_reducible refine gate_store (t := 94) (p := 6) rfl ?_); refine store_event (t := 94) (p := 6) (v := ?vo_w28) (w1 := ((w25.setCell ⟨gb119, 0, none⟩ (.int .i64 a0)).setCell ⟨gb119, 1, none⟩ (.slice Ao24 t116.length co24))) ?hg ?ho ?hn ?hr ?_; (case ho => rfl); (case hg => rfl); (case hn => rfl); (case hr => first | (go_simp; done) | (go_simp; rfl)); intro w28 hw; have n0_ : Aside0 (Kd.R (Kd.int .i64) 3 w28 w.heap.size (fun _ => True) (.slice Ao24 t116.length co24) t116) := ⟨(by rw [hw]; exact (rd_ (Kd.R_mono (Kd.R_far (p := ⟨gb119, 1, none⟩) (Kd.R_far (p := ⟨gb119, 0, none⟩) (Kd.R_types HO118.out BK119.out (by decide)) (fun _ hk => hk.2) (.int .i64 a0)) (fun _ hk => hk.2) (.slice Ao24 t116.length co24)) (fun _ hk => trivial))))⟩; have n1_ : Aside0 (w28.heap[gb113]? = some (.cells #[.int .i64 0, .slice none 0 0] 24 (0, 0))) := ⟨(by rw [hw]; exact (bk2_ BK113.out))⟩; have n2_ : Aside0 (w28.heap[gb119]? = some (.cells #[.int .i64 a0, .slice Ao24 t116.length co24] 94 (0, 0))) := ⟨(by rw [hw]; exact (bk2_ BK119.out))⟩; have n3_ : Aside0 (Below w.heap.size w w28) := ⟨(by rw [hw]; exact HB_)⟩; clear hw; clear HO118; clear BK113; clear BK119; clear HB; have HO118 := n0_; have BK113 := n1_; have BK119 := n2_; have HB := n3_; clear n0_ n1_ n2_ n3_; obtain ⟨hcz29_0, hcz29_1, hfz29_0, hfz29_1⟩ := cz2_ BK119) | ((with_reducible refine gate_callee (f := 111) rfl ?_); refine goesL_ (some 23) rfl rfl Try.func111 (by kernel_rfl) rfl #[.agg #[.int .i64 a0, .slice Ao24 t116.length co24]] rfl MP_ ?_; (with_reducible refine (dbm_grid_close.calls a0 (fun k_ => some k_ = (.slice Ao24 t116.length co24 : Value).ownBlock) (.slice Ao24 t116.length co24) t116 false t121 w _ ?side1 ?side2 A11.out).mono ?_); (case side1 => repeat (first | (with_reducible first | exact HB.out | apply below_alloc | apply pw_below_drewN | apply below_drew1 | refine below_set ?_ GE113.out | refine below_set ?_ GE119.out) | exact HB.out)); (case side2 => exact Kd.R_tight rfl HO118.out); rintro e w30 ⟨rfl, hy0, hb, hkp⟩; refine ⟨_, rfl, ?_⟩; have n_ := a_ (Aside0.mk (blk_kept (bk_ BK113.out) hkp (fun hs_ => (fun e_ => (Kd.R_ne HO118.out BK113.out (by decide)) e_) hs_))) (a_ (Aside0.mk (Kd.R_reok rfl hy0 (fun k_ e_ => HO118.out.1 k_ e_))) (a_ (Aside0.mk (blk_kept (bk_ BK119.out) hkp (fun hs_ => (fun e_ => (Kd.R_ne HO118.out BK119.out (by decide)) e_) hs_))) (Aside0.mk hb))); clear BK113 HO118 BK119 HB; obtain ⟨BK113, HO118, BK119, HB⟩ := n_; (try clear hb); (try clear hkp); (try clear hy0); obtain ⟨hcz31_0, hcz31_1, hfz31_0, hfz31_1⟩ := cz2_ BK113))
    refine bodyPost_ret (results_ct rfl _ _ gb113 24 #[.int .i64 a0, .slice none 0 0] (0, 0) _ rfl (bk2_ BK113.out) Try.underlying24 rfl (by kernel_rfl)) rfl ?_
    exact ⟨_, by first | rfl | (simp [errW_none, errW_some] <;> rfl) | (simp [*, errW_none, errW_some] <;> rfl), by first | exact Kd.R_nil _ _ _ _ _ | exact Kd.N_nil _ _ _ _ _ | exact Kd.V_nil _ _ _ _ _ | exact Kd.Q_nil _ _ _ _ _ | exact Kd.S_nil _ _ _ _ _, HB_⟩
def dbm_Check.j0 : Nat → Bool → Int → List Int → Option (Int)
 | 0, _, _, _ => none
 | k + 1, x13, x123000, x123001 => if x13 = true then (some 0) else ((dbm_Close.f k x123000 x123001).bind fun bt124 => (if bt124.2.2 = 0 then ((dbm_Same.f k bt124.1 bt124.2.1 x123000 x123001).bind fun t130 => (if t130 = true then (some 0) else (some 80))) else (some 80)))
def dbm_Check.f (k : Nat) (a0_0 : Int) (l0_1 : List Int) : Option (Int) := (dbm_vars.f a0_0).bind fun t123 => (if t123 = true then (dbm_Check.j0 k ((l0_1.length : Int) == 0) a0_0 l0_1) else (dbm_Check.j0 k false a0_0 l0_1))
theorem dbm_Check.mono_l : ∀ k, (∀ y0 y1 y2, LeO (dbm_Check.j0 k y0 y1 y2) (dbm_Check.j0 (k + 1) y0 y1 y2))
 | 0 => fun _ _ _ r h => by simp [dbm_Check.j0] at h
 | k + 1 => by
  have ih0 := dbm_Check.mono_l k
  · intro y0 y1 y2
    unfold dbm_Check.j0
    repeat' first
    | (with_reducible exact ih0 _ _ _)
    | (with_reducible exact dbm_Close.mono _ _ _)
    | (with_reducible exact dbm_Same.mono _ _ _ _ _)
    | (with_reducible exact LeO.refl _)
    | (with_reducible exact LeO.none _)
    | (with_reducible refine LeO.ite ?_ ?_)
    | (with_reducible refine LeO.bind ?_ (fun _ => ?_))
    | exact ih0 _ _ _
    | exact dbm_Close.mono _ _ _
    | exact dbm_Same.mono _ _ _ _ _
    | exact LeO.none _
    | refine LeO.ite ?_ ?_
    | refine LeO.bind ?_ (fun _ => ?_)
theorem dbm_Check.mono : ∀ a0 a1 k, LeO (dbm_Check.f k a0 a1) (dbm_Check.f (k + 1) a0 a1) := by
 intro a0 a1 k
 have ih0 := dbm_Check.mono_l k
 unfold dbm_Check.f
 repeat' first
  | (with_reducible exact ih0 _ _ _)
  | (with_reducible exact dbm_Close.mono _ _ _)
  | (with_reducible exact dbm_Same.mono _ _ _ _ _)
  | (with_reducible exact LeO.refl _)
  | (with_reducible exact LeO.none _)
  | (with_reducible refine LeO.ite ?_ ?_)
  | (with_reducible refine LeO.bind ?_ (fun _ => ?_))
  | exact ih0 _ _ _
  | exact dbm_Close.mono _ _ _
  | exact dbm_Same.mono _ _ _ _ _
  | exact LeO.none _
  | refine LeO.ite ?_ ?_
  | refine LeO.bind ?_ (fun _ => ?_)
set_option maxHeartbeats 8000000 in
set_option maxRecDepth 100000 in
theorem dbm_Check.calls (k : Nat) (a0_0 : Int) (A0_1 : Option Addr) (c0_1 : Nat) (l0_1 : List Int) (r : Int) (w : World) (hr0_1 : Kd.C (Kd.int .i64) w A0_1 l0_1.length l0_1) (hc0_1 : l0_1.length ≤ c0_1) (h : dbm_Check.f k a0_0 l0_1 = some r) :
  Calls Try.prog 91 #[.agg #[.int .i64 a0_0, .slice A0_1 l0_1.length c0_1]] w fun e w' => e = .returned (.int .i64 r) ∧ Below w.heap.size w w' := by
 have hu24 := Try.underlying24
 have HR0_1 := Aside0.mk hr0_1
 have HC0_1 := Aside0.mk hc0_1
 clear hr0_1 hc0_1
 have HB := Aside0.mk (Below.refl w.heap.size w)
 have H : ((dbm_vars.f a0_0).bind fun t123 => (if t123 = true then (dbm_Check.j0 k ((l0_1.length : Int) == 0) a0_0 l0_1) else (dbm_Check.j0 k false a0_0 l0_1))) = some r := h
 clear h
 have HC2 := Aside0.mk H
 clear H
 go_enter Try.func91, Try.ntmps91
 go_upto_region 1 with (first | ((with_reducible refine gate_dst (N := 1) rfl ?_); (try (refine gate_guard (by rfl) ?_; dsimp only)); refine bx_ (N := 1) (cs := #[.int .i64 a0_0, .slice A0_1 l0_1.length c0_1]) (t := 24) ?_; intro gb122 hg w3 hbox hb; have n_ := a_ (bs_ HB hb) (a_ (Aside0.mk hbox) (a_ (gs_ HB hg) (gs_ HB hg))); clear HB; obtain ⟨HB, BK122, GW122, GE122⟩ := n_; clear hb hbox hg))
 (try simp only [Act.put, List.setIfInBounds_toArray, List.set_cons_zero, List.set_cons_succ])
 go_cut [13] (fun v13 wc => ∃ (kq : Nat) (x13_1 : Bool), v13 = .bool x13_1 ∧ Aside0 (dbm_Check.j0 kq x13_1 a0_0 l0_1 = some r) ∧ Aside0 (kq ≤ k) ∧ Aside0 (wc.heap[gb122]? = some (.cells #[.int .i64 a0_0, (.slice A0_1 l0_1.length c0_1)] 24 (0, 0))) ∧ Aside0 (Below w.heap.size w wc))
 case first =>
  have H := HC2.out
  clear HC2
  replace H := bd_ H
  obtain ⟨t123, A4, H⟩ := H
  (try dsimp only at H)
  by_cases c5 : t123 = true
  · subst c5
    replace H := ps1_ H
    have H' := Aside0.mk H
    clear H
    obtain ⟨hcz6_0, hcz6_1, hfz6_0, hfz6_1⟩ := cz2_ BK122
    go_wp2_with (first | ((with_reducible refine gate_callee (f := 107) rfl ?_); refine goesL_ (some 7) rfl rfl Try.func107 (by kernel_rfl) rfl #[.int .i64 a0_0] rfl MP_ ?_; (with_reducible refine (dbm_vars.calls a0_0 true _ A4.out).mono ?_); rintro e w' ⟨rfl, ⟨nd, rfl⟩⟩; refine ⟨_, rfl, ?_⟩))
    go_meet
    case rel => exact ⟨_, (((l0_1.length : Int) == 0)), (by first | rfl | (simp; done) | (simp [*]; done)), H', ⟨by first | omega | exact Nat.le_refl _⟩, ⟨by (with_reducible repeat (first | refine blk_drewN ?_ _ | refine blk_drew ?_ | refine blk_alloc ?_ _)); exact BK122.out⟩, ⟨HB_⟩⟩
  replace c5 := Bool.eq_false_iff.mpr c5
  subst c5
  replace H := ng1_ H
  have H' := Aside0.mk H
  clear H
  obtain ⟨hcz7_0, hcz7_1, hfz7_0, hfz7_1⟩ := cz2_ BK122
  go_wp2_with (first | ((with_reducible refine gate_callee (f := 107) rfl ?_); refine goesL_ (some 7) rfl rfl Try.func107 (by kernel_rfl) rfl #[.int .i64 a0_0] rfl MP_ ?_; (with_reducible refine (dbm_vars.calls a0_0 false _ A4.out).mono ?_); rintro e w' ⟨rfl, ⟨nd, rfl⟩⟩; refine ⟨_, rfl, ?_⟩))
  go_meet
  case rel => exact ⟨_, (false), (by first | rfl | (simp; done) | (simp [*]; done)), H', ⟨by first | omega | exact Nat.le_refl _⟩, ⟨by (with_reducible repeat (first | refine blk_drewN ?_ _ | refine blk_drew ?_ | refine blk_alloc ?_ _)); exact BK122.out⟩, ⟨HB_⟩⟩
 case rest =>
  clear HC2
  try clear c1
  try clear p2
  try clear c5
  try clear hcz6_0
  try clear hcz6_1
  try clear hcz7_0
  try clear hcz7_1
  try clear hfz6_0
  try clear hfz6_1
  try clear hfz7_0
  try clear hfz7_1
  obtain ⟨kq, x13_1, rfl, HA, HJ1, BK122, HB⟩ := hcut
  cases kq with
  | zero => exact absurd HA.out (by simp [dbm_Check.j0])
  | succ kj1 =>
    have H := HA.out
    clear HA
    simp only [dbm_Check.j0] at H
    by_cases c8 : x13_1 = true
    · subst c8
      replace H := ps1_ H
      obtain rfl := Option.some.inj H
      go_wp2
      go_ret
      exact ⟨by first | rfl | (simp [errW_none, errW_some] <;> rfl) | (simp [*, errW_none, errW_some] <;> rfl), HB_⟩
    replace c8 := Bool.eq_false_iff.mpr c8
    subst c8
    replace H := ng1_ H
    replace H := bd_ H
    obtain ⟨⟨t124, t125, t128⟩, A9, H⟩ := H
    (try dsimp only at H)
    by_cases c10 : t128 = 0
    rotate_left
    · rw [if_neg c10] at H
      have c10b0 : (t128 == 0) = false := beq_eq_false_iff_ne.mpr c10
      have c10b1 : (t128 != 0) = true := bne_iff_ne.mpr c10
      obtain rfl := Option.some.inj H
      obtain ⟨hcz29_0, hcz29_1, hfz29_0, hfz29_1⟩ := cz2_ BK122
      go_wp2_with (first | ((with_reducible refine gate_callee (f := 88) rfl ?_); refine goesL_ (some 19) rfl rfl Try.func88 (by kernel_rfl) rfl #[.int .i64 a0_0, .slice A0_1 l0_1.length c0_1] rfl MP_ ?_; (with_reducible refine (dbm_Close.calls kj1 a0_0 _ _ l0_1 t124 t125 t128 _ ?side1 ?side2 A9.out).mono ?_); (case side1 => exact sd_ (Kd.C_below HR0_1.out HB.out)); (case side2 => exact HC0_1.out); rintro e w30 ⟨v126, rfl, ho0, hb⟩; refine ⟨_, rfl, ?_⟩; have n_ := a_ (Aside0.mk (Kd.R_lower ho0 (below_size HB_))) (a_ (bb_ BK122 hb) (bs_ HB hb)); clear BK122 HB; obtain ⟨HO127, BK122, HB⟩ := n_; (try clear hb); (try clear hb2); (try clear hk); (try clear hi); (try clear ho0)) | ((with_reducible refine gate_dst (N := 3) rfl ?_); (try (refine gate_guard (by rfl) ?_; dsimp only)); refine bx_ (N := 3) (cs := #[.int .i64 0, .slice none 0 0]) (t := 24) ?_; intro gb129 hg w31 hbox hb; have n_ := a_ (rb_ HO127 hb) (a_ (bb_ BK122 hb) (a_ (bs_ HB hb) (a_ (Aside0.mk hbox) (a_ (gs_ HB hg) (a_ (gs_ HB hg) (a_ (nl_ BK122 hg) (ng_ BK122 hg))))))); clear HO127 BK122 HB; obtain ⟨HO127, BK122, HB, BK129, GW129, GE129, NB122_129, NB129_122⟩ := n_; clear hb hbox hg; have hnb32 := NB129_122.out; have hnc32 := NB122_129.out; obtain ⟨hcz33_0, hcz33_1, hfz33_0, hfz33_1⟩ := cz2_ BK129; obtain ⟨Ao34, co34, eo34⟩ := Kd.R_slice HO127.out; subst eo34))
      go_ret
      exact ⟨by first | rfl | (simp [errW_none, errW_some] <;> rfl) | (simp [*, errW_none, errW_some] <;> rfl), HB_⟩
    rw [if_pos c10] at H
    have c10b0 : (t128 == 0) = true := beq_iff_eq.mpr c10
    have c10b1 : (t128 != 0) = false := bne_eq_false_iff_eq.mpr c10
    clear c10
    replace H := bd_ H
    obtain ⟨t130, A11, H⟩ := H
    (try dsimp only at H)
    by_cases c12 : t130 = true
    · subst c12
      replace H := ps1_ H
      obtain rfl := Option.some.inj H
      obtain ⟨hcz13_0, hcz13_1, hfz13_0, hfz13_1⟩ := cz2_ BK122
      go_wp2_with (first | ((with_reducible refine gate_callee (f := 88) rfl ?_); refine goesL_ (some 19) rfl rfl Try.func88 (by kernel_rfl) rfl #[.int .i64 a0_0, .slice A0_1 l0_1.length c0_1] rfl MP_ ?_; (with_reducible refine (dbm_Close.calls kj1 a0_0 _ _ l0_1 t124 t125 t128 _ ?side1 ?side2 A9.out).mono ?_); (case side1 => exact sd_ (Kd.C_below HR0_1.out HB.out)); (case side2 => exact HC0_1.out); rintro e w14 ⟨v126, rfl, ho0, hb⟩; refine ⟨_, rfl, ?_⟩; have n_ := a_ (Aside0.mk (Kd.R_lower ho0 (below_size HB_))) (a_ (bb_ BK122 hb) (bs_ HB hb)); clear BK122 HB; obtain ⟨HO127, BK122, HB⟩ := n_; (try clear hb); (try clear hb2); (try clear hk); (try clear hi); (try clear ho0)) | ((with_reducible refine gate_dst (N := 3) rfl ?_); (try (refine gate_guard (by rfl) ?_; dsimp only)); refine bx_ (N := 3) (cs := #[.int .i64 0, .slice none 0 0]) (t := 24) ?_; intro gb129 hg w15 hbox hb; have n_ := a_ (rb_ HO127 hb) (a_ (bb_ BK122 hb) (a_ (bs_ HB hb) (a_ (Aside0.mk hbox) (a_ (gs_ HB hg) (a_ (gs_ HB hg) (a_ (nl_ BK122 hg) (ng_ BK122 hg))))))); clear HO127 BK122 HB; obtain ⟨HO127, BK122, HB, BK129, GW129, GE129, NB122_129, NB129_122⟩ := n_; clear hb hbox hg; have hnb16 := NB129_122.out; have hnc16 := NB122_129.out; obtain ⟨hcz17_0, hcz17_1, hfz17_0, hfz17_1⟩ := cz2_ BK129; obtain ⟨Ao18, co18, eo18⟩ := Kd.R_slice HO127.out; subst eo18; obtain ⟨hcz19_0, hcz19_1, hfz19_0, hfz19_1⟩ := cz2_ BK122) | (go_at_call 63; (with_reducible refine (dbm_Same.calls kj1 t124 _ _ t125 a0_0 _ _ l0_1 true _ ?side1 ?side2 ?side3 ?side4 A11.out).mono ?_); (case side1 => refine (Kd.R_reads' (e := 3) (base := w.heap.size) (ok := fun k_ => True) (n := t125.length) (c := co18) ?_).2.2; exact (rd_ (rf2_ HO127 BK129 (.int .i64 t124) (.slice Ao18 t125.length co18)))); (case side2 => exact (Kd.R_reads' HO127.out).2.1); (case side3 => exact Kd.C_below HR0_1.out HB_); (case side4 => exact HC0_1.out); rintro e w20 ⟨rfl, hb⟩; have n_ := a_ (Aside0.mk (Kd.R_below (rd_ (rf2_ HO127 BK129 (.int .i64 t124) (.slice Ao18 t125.length co18))) hb)) (a_ (bc_ #[.int .i64 a0_0, .slice A0_1 l0_1.length c0_1] 24 BK122 hb) (a_ (bc_ #[.int .i64 t124, .slice Ao18 t125.length co18] 24 BK129 hb) (bs_ HB hb))); clear HO127 BK122 BK129 HB; obtain ⟨HO127, BK122, BK129, HB⟩ := n_; (try clear hb); (try clear hb2); (try clear hk); (try clear hi)))
      go_ret
      exact ⟨by first | rfl | (simp [errW_none, errW_some] <;> rfl) | (simp [*, errW_none, errW_some] <;> rfl), HB_⟩
    replace c12 := Bool.eq_false_iff.mpr c12
    subst c12
    replace H := ng1_ H
    obtain rfl := Option.some.inj H
    obtain ⟨hcz21_0, hcz21_1, hfz21_0, hfz21_1⟩ := cz2_ BK122
    go_wp2_with (first | ((with_reducible refine gate_callee (f := 88) rfl ?_); refine goesL_ (some 19) rfl rfl Try.func88 (by kernel_rfl) rfl #[.int .i64 a0_0, .slice A0_1 l0_1.length c0_1] rfl MP_ ?_; (with_reducible refine (dbm_Close.calls kj1 a0_0 _ _ l0_1 t124 t125 t128 _ ?side1 ?side2 A9.out).mono ?_); (case side1 => exact sd_ (Kd.C_below HR0_1.out HB.out)); (case side2 => exact HC0_1.out); rintro e w22 ⟨v126, rfl, ho0, hb⟩; refine ⟨_, rfl, ?_⟩; have n_ := a_ (Aside0.mk (Kd.R_lower ho0 (below_size HB_))) (a_ (bb_ BK122 hb) (bs_ HB hb)); clear BK122 HB; obtain ⟨HO127, BK122, HB⟩ := n_; (try clear hb); (try clear hb2); (try clear hk); (try clear hi); (try clear ho0)) | ((with_reducible refine gate_dst (N := 3) rfl ?_); (try (refine gate_guard (by rfl) ?_; dsimp only)); refine bx_ (N := 3) (cs := #[.int .i64 0, .slice none 0 0]) (t := 24) ?_; intro gb129 hg w23 hbox hb; have n_ := a_ (rb_ HO127 hb) (a_ (bb_ BK122 hb) (a_ (bs_ HB hb) (a_ (Aside0.mk hbox) (a_ (gs_ HB hg) (a_ (gs_ HB hg) (a_ (nl_ BK122 hg) (ng_ BK122 hg))))))); clear HO127 BK122 HB; obtain ⟨HO127, BK122, HB, BK129, GW129, GE129, NB122_129, NB129_122⟩ := n_; clear hb hbox hg; have hnb24 := NB129_122.out; have hnc24 := NB122_129.out; obtain ⟨hcz25_0, hcz25_1, hfz25_0, hfz25_1⟩ := cz2_ BK129; obtain ⟨Ao26, co26, eo26⟩ := Kd.R_slice HO127.out; subst eo26; obtain ⟨hcz27_0, hcz27_1, hfz27_0, hfz27_1⟩ := cz2_ BK122) | (go_at_call 63; (with_reducible refine (dbm_Same.calls kj1 t124 _ _ t125 a0_0 _ _ l0_1 false _ ?side1 ?side2 ?side3 ?side4 A11.out).mono ?_); (case side1 => refine (Kd.R_reads' (e := 3) (base := w.heap.size) (ok := fun k_ => True) (n := t125.length) (c := co26) ?_).2.2; exact (rd_ (rf2_ HO127 BK129 (.int .i64 t124) (.slice Ao26 t125.length co26)))); (case side2 => exact (Kd.R_reads' HO127.out).2.1); (case side3 => exact Kd.C_below HR0_1.out HB_); (case side4 => exact HC0_1.out); rintro e w28 ⟨rfl, hb⟩; have n_ := a_ (Aside0.mk (Kd.R_below (rd_ (rf2_ HO127 BK129 (.int .i64 t124) (.slice Ao26 t125.length co26))) hb)) (a_ (bc_ #[.int .i64 a0_0, .slice A0_1 l0_1.length c0_1] 24 BK122 hb) (a_ (bc_ #[.int .i64 t124, .slice Ao26 t125.length co26] 24 BK129 hb) (bs_ HB hb))); clear HO127 BK122 BK129 HB; obtain ⟨HO127, BK122, BK129, HB⟩ := n_; (try clear hb); (try clear hb2); (try clear hk); (try clear hi)))
    go_ret
    exact ⟨by first | rfl | (simp [errW_none, errW_some] <;> rfl) | (simp [*, errW_none, errW_some] <;> rfl), HB_⟩
def prog_some.f (a0 : Int) (a1 : Int) : Option (Bool) := if a0 ≥ 0 then (some (decide (a0 ≤ a1))) else (some false)
set_option maxHeartbeats 8000000 in
set_option maxRecDepth 100000 in
theorem prog_some.calls (a0 : Int) (a1 : Int) (r : Bool) (w : World) (h : prog_some.f a0 a1 = some r) :
   Calls Try.prog 112 #[.int .i64 a0, .int .i64 a1] w fun e w' => e = .returned (.bool r) ∧ Drawn0 w w' := by
 have H : (if a0 ≥ 0 then (some (decide (a0 ≤ a1))) else (some false)) = some r := h
 clear h
 by_cases c3 : a0 ≥ 0
 · rw [if_pos c3] at H
   have c3b0 : decide (0 ≤ a0) = true := decide_eq_true c3
   clear c3
   obtain rfl := Option.some.inj H
   go_enter Try.func112, Try.ntmps112
   go_wp2
   go_ret
   exact ⟨by first | rfl | (simp; done) | (simp [*]; done), by repeat (first | exact Drawn0.refl _ | apply Drawn0.step)⟩
 rw [if_neg c3] at H
 have c3b0 : decide (0 ≤ a0) = false := decide_eq_false c3
 clear c3
 obtain rfl := Option.some.inj H
 go_enter Try.func112, Try.ntmps112
 go_wp2
 go_ret
 exact ⟨by first | rfl | (simp; done) | (simp [*]; done), by repeat (first | exact Drawn0.refl _ | apply Drawn0.step)⟩
def prog_one.f (a0 : Int) (a1 : Int) : Option (Bool) := if a0 ≥ 1 then (some (decide (a0 ≤ a1))) else (some false)
set_option maxHeartbeats 8000000 in
set_option maxRecDepth 100000 in
theorem prog_one.calls (a0 : Int) (a1 : Int) (r : Bool) (w : World) (h : prog_one.f a0 a1 = some r) :
   Calls Try.prog 113 #[.int .i64 a0, .int .i64 a1] w fun e w' => e = .returned (.bool r) ∧ Drawn0 w w' := by
 have H : (if a0 ≥ 1 then (some (decide (a0 ≤ a1))) else (some false)) = some r := h
 clear h
 by_cases c3 : a0 ≥ 1
 · rw [if_pos c3] at H
   have c3b0 : decide (1 ≤ a0) = true := decide_eq_true c3
   clear c3
   obtain rfl := Option.some.inj H
   go_enter Try.func113, Try.ntmps113
   go_wp2
   go_ret
   exact ⟨by first | rfl | (simp; done) | (simp [*]; done), by repeat (first | exact Drawn0.refl _ | apply Drawn0.step)⟩
 rw [if_neg c3] at H
 have c3b0 : decide (1 ≤ a0) = false := decide_eq_false c3
 clear c3
 obtain rfl := Option.some.inj H
 go_enter Try.func113, Try.ntmps113
 go_wp2
 go_ret
 exact ⟨by first | rfl | (simp; done) | (simp [*]; done), by repeat (first | exact Drawn0.refl _ | apply Drawn0.step)⟩
end Go.Proofs.Ytgeemdpflcefkaa.Y
