-- WRITTEN BY this session's program wip/ext.py, in print.py's manner
import Derived.Test.YtgeemdpflcefkaaZx0
import Derived.Test.YtgeemdpflcefkaaZx34
import Derived.Test.YtgeemdpflcefkaaZx39
namespace Go.Proofs.Ytgeemdpflcefkaa.Z
open Go.RowKit Go.Proofs.YtgeemdpflcefkaaW.PrintWords Go.Proofs.YtgeemdpflcefkaaW.PrintLast Go.Proofs.YtgeemdpflcefkaaW.PrintMore
attribute [local go_sem] max2_int min2_int max_two min_two max_three min_three max_four min_four   -- for this text's walks alone
set_option linter.unusedVariables false
set_option linter.unusedSimpArgs false

/-! ### warrantorref09_Let: function 33 -/
mutual
def warrantorref09_Let.j0 : Nat → Int → Int → Int → Bool → Int → List Int → Option (Int × List Int)
  | 0, _, _, _, _, _, _ => none
  | k + 1, x1, x2, x3, x23, x536000, x536001 => if x23 = true then (some (x536000, ([] : List Int))) else (if x1 = x2 then ((some (([] : List Int) : List Int)).bind fun y549 => (if y549.length + x536001.length < 17592186044416 then (warrantorref09_Let.l0 k x1 x3 (wrap64 (x536000 + 1)) (y549 ++ x536001) 0 x536000 x536001) else (none))) else ((warrantorref09_Forget.f k x536000 x536001 x1).bind fun bt537 => ((warrantorref09_Limit.f k bt537.1 bt537.2 x1 x2 x3).bind fun bt541 => ((warrantorref09_Limit.f k bt541.1 bt541.2 x2 x1 (wrap64 (-x3))).bind fun bt545 => (some (bt545.1, bt545.2))))))
def warrantorref09_Let.l0 : Nat → Int → Int → Int → List Int → Int → Int → List Int → Option (Int × List Int)
  | 0, _, _, _, _, _, _, _ => none
  | k + 1, x1, x3, x9, x10, x11, x536000, x536001 => if x11 < x9 then (if x11 = x1 then (warrantorref09_Let.l0 k x1 x3 x9 x10 (wrap64 (x11 + 1)) x536000 x536001) else (if 0 ≤ (wrap64 ((wrap64 (x1 * x9)) + x11)) then (if (wrap64 ((wrap64 (x1 * x9)) + x11)) < (x10.length : Int) then ((some (x10.set ((wrap64 ((wrap64 (x1 * x9)) + x11)) : Int).toNat (wrap64 ((rd x10 (wrap64 ((wrap64 (x1 * x9)) + x11))) + x3)) : List Int)).bind fun y556 => (if 0 ≤ (wrap64 ((wrap64 (x11 * x9)) + x1)) then (if (wrap64 ((wrap64 (x11 * x9)) + x1)) < (x10.length : Int) then (warrantorref09_Let.l0 k x1 x3 x9 (y556.set ((wrap64 ((wrap64 (x11 * x9)) + x1)) : Int).toNat (wrap64 ((rd y556 (wrap64 ((wrap64 (x11 * x9)) + x1))) - x3))) (wrap64 (x11 + 1)) x536000 x536001) else (none)) else (none))) else (none)) else (none))) else ((warrantorref08_Close.f k x536000 x10).bind fun bt559 => (some (bt559.1, bt559.2)))
end
def warrantorref09_Let.f (k : Nat) (a0_0 : Int) (l0_1 : List Int) (a1 : Int) (a2 : Int) (a3 : Int) : Option (Int × List Int) := if a3 > 2199023255552 then (warrantorref09_Let.j0 k a1 a2 a3 true a0_0 l0_1) else (if a3 < (-2199023255552) then (warrantorref09_Let.j0 k a1 a2 a3 true a0_0 l0_1) else (warrantorref09_Let.j0 k a1 a2 a3 ((l0_1.length : Int) == 0) a0_0 l0_1))
theorem warrantorref09_Let.mono_l : ∀ k, (∀ y0 y1 y2 y3 y4 y5, LeO (warrantorref09_Let.j0 k y0 y1 y2 y3 y4 y5) (warrantorref09_Let.j0 (k + 1) y0 y1 y2 y3 y4 y5)) ∧ (∀ y0 y1 y2 y3 y4 y5 y6, LeO (warrantorref09_Let.l0 k y0 y1 y2 y3 y4 y5 y6) (warrantorref09_Let.l0 (k + 1) y0 y1 y2 y3 y4 y5 y6))
  | 0 => ⟨fun _ _ _ _ _ _ r h => by simp [warrantorref09_Let.j0] at h, fun _ _ _ _ _ _ _ r h => by simp [warrantorref09_Let.l0] at h⟩
  | k + 1 => by
    obtain ⟨ih0, ih1⟩ := warrantorref09_Let.mono_l k
    refine ⟨?_, ?_⟩
    · intro y0 y1 y2 y3 y4 y5
      unfold warrantorref09_Let.j0
      repeat' first
      | (with_reducible exact ih0 _ _ _ _ _ _)
      | (with_reducible exact ih1 _ _ _ _ _ _ _)
      | (with_reducible exact warrantorref08_Close.mono _ _ _)
      | (with_reducible exact warrantorref09_Forget.mono _ _ _ _)
      | (with_reducible exact warrantorref09_Limit.mono _ _ _ _ _ _)
      | (with_reducible exact LeO.refl _)
      | (with_reducible exact LeO.none _)
      | (with_reducible refine LeO.ite ?_ ?_)
      | (with_reducible refine LeO.bind ?_ (fun _ => ?_))
      | exact ih0 _ _ _ _ _ _
      | exact ih1 _ _ _ _ _ _ _
      | exact warrantorref08_Close.mono _ _ _
      | exact warrantorref09_Forget.mono _ _ _ _
      | exact warrantorref09_Limit.mono _ _ _ _ _ _
      | exact LeO.none _
      | refine LeO.ite ?_ ?_
      | refine LeO.bind ?_ (fun _ => ?_)
    · intro y0 y1 y2 y3 y4 y5 y6
      unfold warrantorref09_Let.l0
      repeat' first
      | (with_reducible exact ih0 _ _ _ _ _ _)
      | (with_reducible exact ih1 _ _ _ _ _ _ _)
      | (with_reducible exact warrantorref08_Close.mono _ _ _)
      | (with_reducible exact warrantorref09_Forget.mono _ _ _ _)
      | (with_reducible exact warrantorref09_Limit.mono _ _ _ _ _ _)
      | (with_reducible exact LeO.refl _)
      | (with_reducible exact LeO.none _)
      | (with_reducible refine LeO.ite ?_ ?_)
      | (with_reducible refine LeO.bind ?_ (fun _ => ?_))
      | exact ih0 _ _ _ _ _ _
      | exact ih1 _ _ _ _ _ _ _
      | exact warrantorref08_Close.mono _ _ _
      | exact warrantorref09_Forget.mono _ _ _ _
      | exact warrantorref09_Limit.mono _ _ _ _ _ _
      | exact LeO.none _
      | refine LeO.ite ?_ ?_
      | refine LeO.bind ?_ (fun _ => ?_)
theorem warrantorref09_Let.mono : ∀ a0 a1 a2 a3 a4 k, LeO (warrantorref09_Let.f k a0 a1 a2 a3 a4) (warrantorref09_Let.f (k + 1) a0 a1 a2 a3 a4) := by
  intro a0 a1 a2 a3 a4 k
  obtain ⟨ih0, ih1⟩ := warrantorref09_Let.mono_l k
  unfold warrantorref09_Let.f
  repeat' first
      | (with_reducible exact ih0 _ _ _ _ _ _)
      | (with_reducible exact ih1 _ _ _ _ _ _ _)
      | (with_reducible exact warrantorref08_Close.mono _ _ _)
      | (with_reducible exact warrantorref09_Forget.mono _ _ _ _)
      | (with_reducible exact warrantorref09_Limit.mono _ _ _ _ _ _)
      | (with_reducible exact LeO.refl _)
      | (with_reducible exact LeO.none _)
      | (with_reducible refine LeO.ite ?_ ?_)
      | (with_reducible refine LeO.bind ?_ (fun _ => ?_))
      | exact ih0 _ _ _ _ _ _
      | exact ih1 _ _ _ _ _ _ _
      | exact warrantorref08_Close.mono _ _ _
      | exact warrantorref09_Forget.mono _ _ _ _
      | exact warrantorref09_Limit.mono _ _ _ _ _ _
      | exact LeO.none _
      | refine LeO.ite ?_ ?_
      | refine LeO.bind ?_ (fun _ => ?_)
set_option maxHeartbeats 8000000 in
set_option maxRecDepth 100000 in
theorem warrantorref09_Let.calls (k : Nat) (a0_0 : Int) (P0_1_ : Nat → Prop) (A0_1 : Option Addr) (c0_1 : Nat) (l0_1 : List Int) (a1 : Int) (a2 : Int) (a3 : Int) (r1 : Int) (r2 : List Int) (w : World) (hs0_1 : Kd.V (Kd.int .i64) 3 w w.heap.size (fun k_ => P0_1_ k_) (.slice A0_1 l0_1.length c0_1) l0_1) (h : warrantorref09_Let.f k a0_0 l0_1 a1 a2 a3 = some (r1, r2)) :
    Calls Try.prog 33 #[.agg #[.int .i64 a0_0, .slice A0_1 l0_1.length c0_1], .int .i64 a1, .int .i64 a2, .int .i64 a3] w fun e w' => ∃ v1_ : Value, e = .returned (.agg #[.int .i64 r1, v1_]) ∧ Kd.V (Kd.int .i64) 3 w' w.heap.size (fun k_ => (P0_1_ k_ ∨ w.heap.size ≤ k_)) v1_ r2 ∧ Below w.heap.size w w' := by
  have hu24 := Try.underlying24
  have HO0_1 := Aside0.mk (show Kd.V (Kd.int .i64) 3 w w.heap.size (fun k_ => (P0_1_ k_ ∨ w.heap.size ≤ k_)) (.slice A0_1 l0_1.length c0_1) l0_1 from Kd.V_mono hs0_1 (fun k_ hk => .inl hk))
  have HB := Aside0.mk (Below.refl w.heap.size w)
  have H : (if a3 > 2199023255552 then (warrantorref09_Let.j0 k a1 a2 a3 true a0_0 l0_1) else (if a3 < (-2199023255552) then (warrantorref09_Let.j0 k a1 a2 a3 true a0_0 l0_1) else (warrantorref09_Let.j0 k a1 a2 a3 ((l0_1.length : Int) == 0) a0_0 l0_1))) = some (r1, r2) := h
  clear h
  have HC5 := Aside0.mk H
  clear H
  go_enter Try.func33, Try.ntmps33
  go_upto_region 1 with (first | ((with_reducible refine gate_dst (N := 4) rfl ?_); (try (refine gate_guard (by rfl) ?_; dsimp only)); refine bx_ (N := 4) (cs := #[.int .i64 a0_0, .slice A0_1 l0_1.length c0_1]) (t := 24) ?_; intro gb535 hg w6 hbox hb; have n_ := a_ (Aside0.mk (Kd.V_below (Kd.V_elderB (by (with_reducible repeat (first | apply Kd.V_alloc | apply Kd.V_drewN | apply Kd.V_drew)); exact HO0_1.out) gb535 (Nat.le_of_eq hg.symm)) hb)) (a_ (bs_ HB hb) (a_ (Aside0.mk hbox) (a_ (gs_ HB hg) (gs_ HB hg)))); clear HO0_1 HB; obtain ⟨HO0_1, HB, BK535, GW535, GE535⟩ := n_; clear hb hbox hg) | ((with_reducible refine gate_dst (N := 8) rfl ?_); (try (refine gate_guard (by rfl) ?_; dsimp only)); refine bx_ (N := 8) (cs := #[.int .i64 0, .slice none 0 0]) (t := 24) ?_; intro gb536 hg w7 hbox hb; have n_ := a_ (Aside0.mk (Kd.V_below (Kd.V_elderB (by (with_reducible repeat (first | apply Kd.V_alloc | apply Kd.V_drewN | apply Kd.V_drew)); exact HO0_1.out) gb536 (Nat.le_of_eq hg.symm)) hb)) (a_ (bb_ BK535 hb) (a_ (bs_ HB hb) (a_ (Aside0.mk hbox) (a_ (gs_ HB hg) (a_ (gs_ HB hg) (a_ (nl_ BK535 hg) (ng_ BK535 hg))))))); clear HO0_1 BK535 HB; obtain ⟨HO0_1, BK535, HB, BK536, GW536, GE536, NB535_536, NB536_535⟩ := n_; clear hb hbox hg))
  (try simp only [Act.put, List.setIfInBounds_toArray, List.set_cons_zero, List.set_cons_succ])
  go_cut [23] (fun v23 wc => ∃ (kq : Nat) (x23_4 : Bool), v23 = .bool x23_4 ∧ Aside0 (warrantorref09_Let.j0 kq a1 a2 a3 x23_4 a0_0 l0_1 = some (r1, r2)) ∧ Aside0 (kq ≤ k) ∧ Aside0 (Kd.V (Kd.int .i64) 3 wc w.heap.size (fun k_ => (P0_1_ k_ ∨ w.heap.size ≤ k_) ∧ k_ ≠ gb535 ∧ k_ ≠ gb536) (.slice A0_1 l0_1.length c0_1) l0_1) ∧ Aside0 (wc.heap[gb535]? = some (.cells #[.int .i64 a0_0, (.slice A0_1 l0_1.length c0_1)] 24 (0, 0))) ∧ Aside0 (wc.heap[gb536]? = some (.cells #[.int .i64 0, (.slice none 0 0)] 24 (0, 0))) ∧ Aside0 (Below w.heap.size w wc))
  case first =>
    have H := HC5.out
    clear HC5
    by_cases c8 : a3 > 2199023255552
    · rw [if_pos c8] at H
      have c8b0 : decide (2199023255552 < a3) = true := decide_eq_true c8
      clear c8
      (first | rw [c8b0] | (simp only [i64_w, i32_w]; rw [c8b0]) | skip)
      have H' := Aside0.mk H
      clear H
      go_wp2
      go_meet
      case rel => exact ⟨_, (true), (by first | rfl | (simp; done) | (simp [*]; done)), H', ⟨by first | omega | exact Nat.le_refl _⟩, ⟨by (with_reducible repeat (first | apply Kd.V_alloc | apply Kd.V_drewN | apply Kd.V_drew)); exact Kd.V_mono HO0_1.out (fun _ hk => ⟨hk.1.1, ⟨hk.1.2, hk.2⟩⟩)⟩, ⟨by (with_reducible repeat (first | refine blk_drewN ?_ _ | refine blk_drew ?_ | refine blk_alloc ?_ _)); exact BK535.out⟩, ⟨by (with_reducible repeat (first | refine blk_drewN ?_ _ | refine blk_drew ?_ | refine blk_alloc ?_ _)); exact BK536.out⟩, ⟨HB_⟩⟩
    rw [if_neg c8] at H
    have c8b0 : decide (2199023255552 < a3) = false := decide_eq_false c8
    clear c8
    (first | rw [c8b0] | (simp only [i64_w, i32_w]; rw [c8b0]) | skip)
    by_cases c9 : a3 < (-2199023255552)
    · rw [if_pos c9] at H
      have c9b0 : decide (a3 < (-2199023255552)) = true := decide_eq_true c9
      clear c9
      have H' := Aside0.mk H
      clear H
      go_wp2
      go_meet
      case rel => exact ⟨_, (true), (by first | rfl | (simp; done) | (simp [*]; done)), H', ⟨by first | omega | exact Nat.le_refl _⟩, ⟨by (with_reducible repeat (first | apply Kd.V_alloc | apply Kd.V_drewN | apply Kd.V_drew)); exact Kd.V_mono HO0_1.out (fun _ hk => ⟨hk.1.1, ⟨hk.1.2, hk.2⟩⟩)⟩, ⟨by (with_reducible repeat (first | refine blk_drewN ?_ _ | refine blk_drew ?_ | refine blk_alloc ?_ _)); exact BK535.out⟩, ⟨by (with_reducible repeat (first | refine blk_drewN ?_ _ | refine blk_drew ?_ | refine blk_alloc ?_ _)); exact BK536.out⟩, ⟨HB_⟩⟩
    rw [if_neg c9] at H
    have c9b0 : decide (a3 < (-2199023255552)) = false := decide_eq_false c9
    clear c9
    have H' := Aside0.mk H
    clear H
    have hnb10 := NB535_536.out
    have hnc10 := NB536_535.out
    obtain ⟨hcz11_0, hcz11_1, hfz11_0, hfz11_1⟩ := cz2_ BK535
    go_wp2
    go_meet
    case rel => exact ⟨_, (((l0_1.length : Int) == 0)), (by first | rfl | (simp; done) | (simp [*]; done)), H', ⟨by first | omega | exact Nat.le_refl _⟩, ⟨by (with_reducible repeat (first | apply Kd.V_alloc | apply Kd.V_drewN | apply Kd.V_drew)); exact Kd.V_mono HO0_1.out (fun _ hk => ⟨hk.1.1, ⟨hk.1.2, hk.2⟩⟩)⟩, ⟨by (with_reducible repeat (first | refine blk_drewN ?_ _ | refine blk_drew ?_ | refine blk_alloc ?_ _)); exact BK535.out⟩, ⟨by (with_reducible repeat (first | refine blk_drewN ?_ _ | refine blk_drew ?_ | refine blk_alloc ?_ _)); exact BK536.out⟩, ⟨HB_⟩⟩
  case rest =>
    clear HC5
    try clear c1
    try clear p2
    try clear c3
    try clear c8
    try clear c8b0
    try clear c9
    try clear c9b0
    try clear c10
    try clear hcz11_0
    try clear hcz11_1
    try clear hfz11_0
    try clear hfz11_1
    obtain ⟨kq, x23_4, rfl, HA, HJ4, HO_536001, BK535, BK536, HB⟩ := hcut
    cases kq with
    | zero => exact absurd HA.out (by simp [warrantorref09_Let.j0])
    | succ kj4 =>
      have H := HA.out
      clear HA
      simp only [warrantorref09_Let.j0] at H
      by_cases c12 : x23_4 = true
      · subst c12
        have H1 : (some (a0_0, ([] : List Int))) = some (r1, r2) := by rw [if_pos rfl] at H; exact H
        clear H
        have H := H1
        clear H1
        simp only [Option.some.injEq, Prod.mk.injEq] at H
        obtain ⟨rfl, rfl⟩ := H
        have hnb13 := NB535_536.out
        have hnc13 := NB536_535.out
        obtain ⟨hcz14_0, hcz14_1, hfz14_0, hfz14_1⟩ := cz2_ BK535
        obtain ⟨hcz15_0, hcz15_1, hfz15_0, hfz15_1⟩ := cz2_ BK536
        go_wp2
        refine bodyPost_ret (results_cell_row rfl _ _ gb536 24 #[.int .i64 a0_0, .slice none 0 0] (0, 0) _ rfl (bk2_ BK536.out) Try.underlying24 rfl (by kernel_rfl)) rfl ?_
        exact ⟨_, by first | rfl | (simp [errW_none, errW_some] <;> rfl) | (simp [*, errW_none, errW_some] <;> rfl), Kd.V_nil _ _ _ _ _, HB_⟩
      replace c12 := Bool.eq_false_iff.mpr c12
      subst c12
      have H1 : (if a1 = a2 then ((some (([] : List Int) : List Int)).bind fun y549 => (if y549.length + l0_1.length < 17592186044416 then (warrantorref09_Let.l0 kj4 a1 a3 (wrap64 (a0_0 + 1)) (y549 ++ l0_1) 0 a0_0 l0_1) else (none))) else ((warrantorref09_Forget.f kj4 a0_0 l0_1 a1).bind fun bt537 => ((warrantorref09_Limit.f kj4 bt537.1 bt537.2 a1 a2 a3).bind fun bt541 => ((warrantorref09_Limit.f kj4 bt541.1 bt541.2 a2 a1 (wrap64 (-a3))).bind fun bt545 => (some (bt545.1, bt545.2)))))) = some (r1, r2) := by rw [if_neg (show ¬ (false = true) by decide)] at H; exact H
      clear H
      have H := H1
      clear H1
      by_cases c16 : a1 = a2
      rotate_left
      · rw [if_neg c16] at H
        have c16b0 : (a1 == a2) = false := beq_eq_false_iff_ne.mpr c16
        have c16b1 : (a1 != a2) = true := bne_iff_ne.mpr c16
        replace H := Option.bind_eq_some_iff.mp H
        obtain ⟨⟨t537, t538⟩, A460, H⟩ := H
        replace H : ((warrantorref09_Limit.f kj4 t537 t538 a1 a2 a3).bind fun bt541 => ((warrantorref09_Limit.f kj4 bt541.1 bt541.2 a2 a1 (wrap64 (-a3))).bind fun bt545 => (some (bt545.1, bt545.2)))) = some (r1, r2) := H
        have A46 := Aside0.mk A460
        clear A460
        replace H := Option.bind_eq_some_iff.mp H
        obtain ⟨⟨t541, t542⟩, A470, H⟩ := H
        replace H : ((warrantorref09_Limit.f kj4 t541 t542 a2 a1 (wrap64 (-a3))).bind fun bt545 => (some (bt545.1, bt545.2))) = some (r1, r2) := H
        have A47 := Aside0.mk A470
        clear A470
        replace H := Option.bind_eq_some_iff.mp H
        obtain ⟨⟨t545, t546⟩, A480, H⟩ := H
        replace H : (some (t545, t546)) = some (r1, r2) := H
        have A48 := Aside0.mk A480
        clear A480
        simp only [Option.some.injEq, Prod.mk.injEq] at H
        obtain ⟨rfl, rfl⟩ := H
        have hnb49 := NB535_536.out
        have hnc49 := NB536_535.out
        obtain ⟨hcz50_0, hcz50_1, hfz50_0, hfz50_1⟩ := cz2_ BK535
        go_wp2_with (first | ((with_reducible refine gate_callee (f := 31) rfl ?_); refine goesL_ (some 32) rfl rfl Try.func31 (by kernel_rfl) rfl #[.agg #[.int .i64 a0_0, .slice A0_1 l0_1.length c0_1], .int .i64 a1] rfl MP_ ?_; (with_reducible refine (warrantorref09_Forget.calls kj4 a0_0 (fun k_ => ((P0_1_ k_ ∨ w.heap.size ≤ k_) ∧ (k_ ≠ gb535 ∧ k_ ≠ gb536))) _ _ l0_1 a1 t537 t538 _ ?side1 A46.out).mono ?_); (case side1 => exact HO_536001.out); rintro e w51 ⟨v539, rfl, ho0, hb⟩; refine ⟨_, rfl, ?_⟩; have n_ := a_ (Aside0.mk (Kd.V_below (by (with_reducible repeat (first | apply Kd.V_alloc | apply Kd.V_drewN | apply Kd.V_drew)); exact HO_536001.out) hb)) (a_ (Aside0.mk (Kd.V_lower (Kd.V_mono (ok' := fun k_ => (P0_1_ k_ ∨ w.heap.size ≤ k_) ∧ k_ ≠ gb535 ∧ k_ ≠ gb536) ho0 (fun k_ hk_ => ⟨Or.elim hk_ (fun hs_ => hs_.1) (fun hn_ => (.inr (Nat.le_trans (below_size HB_) hn_))), Or.elim hk_ (fun hs_ => hs_.2.1) (fun hn_ => (Kd.freshB (g := gb535) (o := .cells #[.int .i64 a0_0, .slice A0_1 l0_1.length c0_1] 24 (0, 0)) (bk_ BK535.out) k_ hn_)), Or.elim hk_ (fun hs_ => hs_.2.2) (fun hn_ => (Kd.freshB (g := gb536) (o := .cells #[.int .i64 0, .slice none 0 0] 24 (0, 0)) (bk_ BK536.out) k_ hn_))⟩)) (below_size HB_))) (a_ (bb_ BK535 hb) (a_ (bb_ BK536 hb) (bs_ HB hb)))); clear HO_536001 BK535 BK536 HB; obtain ⟨HO_536001, HO540, BK535, BK536, HB⟩ := n_; (try clear hb); (try clear hb2); (try clear hk); (try clear hi); (try clear ho0); obtain ⟨Ao52, co52, eo52⟩ := Kd.V_slice HO540.out; subst eo52) | ((with_reducible refine gate_callee (f := 32) rfl ?_); refine goesL_ (some 36) rfl rfl Try.func32 (by kernel_rfl) rfl #[.agg #[.int .i64 t537, .slice Ao52 t538.length co52], .int .i64 a1, .int .i64 a2, .int .i64 a3] rfl MP_ ?_; (with_reducible refine (warrantorref09_Limit.calls kj4 t537 (fun k_ => ((P0_1_ k_ ∨ w.heap.size ≤ k_) ∧ (k_ ≠ gb535 ∧ k_ ≠ gb536))) _ _ t538 a1 a2 a3 t541 t542 _ ?side1 A47.out).mono ?_); (case side1 => exact HO540.out); rintro e w53 ⟨v543, rfl, ho0, hb⟩; refine ⟨_, rfl, ?_⟩; have n_ := a_ (Aside0.mk (Kd.V_below (by (with_reducible repeat (first | apply Kd.V_alloc | apply Kd.V_drewN | apply Kd.V_drew)); exact HO_536001.out) hb)) (a_ (Aside0.mk (Kd.V_below (by (with_reducible repeat (first | apply Kd.V_alloc | apply Kd.V_drewN | apply Kd.V_drew)); exact HO540.out) hb)) (a_ (Aside0.mk (Kd.V_lower (Kd.V_mono (ok' := fun k_ => (P0_1_ k_ ∨ w.heap.size ≤ k_) ∧ k_ ≠ gb535 ∧ k_ ≠ gb536) ho0 (fun k_ hk_ => ⟨Or.elim hk_ (fun hs_ => hs_.1) (fun hn_ => (.inr (Nat.le_trans (below_size HB_) hn_))), Or.elim hk_ (fun hs_ => hs_.2.1) (fun hn_ => (Kd.freshB (g := gb535) (o := .cells #[.int .i64 a0_0, .slice A0_1 l0_1.length c0_1] 24 (0, 0)) (bk_ BK535.out) k_ hn_)), Or.elim hk_ (fun hs_ => hs_.2.2) (fun hn_ => (Kd.freshB (g := gb536) (o := .cells #[.int .i64 0, .slice none 0 0] 24 (0, 0)) (bk_ BK536.out) k_ hn_))⟩)) (below_size HB_))) (a_ (bb_ BK535 hb) (a_ (bb_ BK536 hb) (bs_ HB hb))))); clear HO_536001 HO540 BK535 BK536 HB; obtain ⟨HO_536001, HO540, HO544, BK535, BK536, HB⟩ := n_; (try clear hb); (try clear hb2); (try clear hk); (try clear hi); (try clear ho0); obtain ⟨Ao54, co54, eo54⟩ := Kd.V_slice HO544.out; subst eo54; (try clear A47)) | ((with_reducible refine gate_callee (f := 32) rfl ?_); refine goesL_ (some 41) rfl rfl Try.func32 (by kernel_rfl) rfl #[.agg #[.int .i64 t541, .slice Ao54 t542.length co54], .int .i64 a2, .int .i64 a1, .int .i64 (wrap64 (-a3))] rfl MP_ ?_; (with_reducible refine (warrantorref09_Limit.calls kj4 t541 (fun k_ => ((P0_1_ k_ ∨ w.heap.size ≤ k_) ∧ (k_ ≠ gb535 ∧ k_ ≠ gb536))) _ _ t542 a2 a1 (wrap64 (-a3)) t545 t546 _ ?side1 A48.out).mono ?_); (case side1 => exact HO544.out); rintro e w55 ⟨v547, rfl, ho0, hb⟩; refine ⟨_, rfl, ?_⟩; have n_ := a_ (Aside0.mk (Kd.V_below (by (with_reducible repeat (first | apply Kd.V_alloc | apply Kd.V_drewN | apply Kd.V_drew)); exact HO_536001.out) hb)) (a_ (Aside0.mk (Kd.V_below (by (with_reducible repeat (first | apply Kd.V_alloc | apply Kd.V_drewN | apply Kd.V_drew)); exact HO540.out) hb)) (a_ (Aside0.mk (Kd.V_below (by (with_reducible repeat (first | apply Kd.V_alloc | apply Kd.V_drewN | apply Kd.V_drew)); exact HO544.out) hb)) (a_ (Aside0.mk (Kd.V_lower (Kd.V_mono (ok' := fun k_ => (P0_1_ k_ ∨ w.heap.size ≤ k_) ∧ k_ ≠ gb535 ∧ k_ ≠ gb536) ho0 (fun k_ hk_ => ⟨Or.elim hk_ (fun hs_ => hs_.1) (fun hn_ => (.inr (Nat.le_trans (below_size HB_) hn_))), Or.elim hk_ (fun hs_ => hs_.2.1) (fun hn_ => (Kd.freshB (g := gb535) (o := .cells #[.int .i64 a0_0, .slice A0_1 l0_1.length c0_1] 24 (0, 0)) (bk_ BK535.out) k_ hn_)), Or.elim hk_ (fun hs_ => hs_.2.2) (fun hn_ => (Kd.freshB (g := gb536) (o := .cells #[.int .i64 0, .slice none 0 0] 24 (0, 0)) (bk_ BK536.out) k_ hn_))⟩)) (below_size HB_))) (a_ (bb_ BK535 hb) (a_ (bb_ BK536 hb) (bs_ HB hb)))))); clear HO_536001 HO540 HO544 BK535 BK536 HB; obtain ⟨HO_536001, HO540, HO544, HO548, BK535, BK536, HB⟩ := n_; (try clear hb); (try clear hb2); (try clear hk); (try clear hi); (try clear ho0); obtain ⟨hcz56_0, hcz56_1, hfz56_0, hfz56_1⟩ := cz2_ BK536; obtain ⟨Ao57, co57, eo57⟩ := Kd.V_slice HO548.out; subst eo57))
        refine bodyPost_ret (results_cell_row rfl _ _ gb536 24 #[.int .i64 t545, .slice Ao57 t546.length co57] (0, 0) _ rfl (bk2_ BK536.out) Try.underlying24 rfl (by kernel_rfl)) rfl ?_
        exact ⟨_, by first | rfl | (simp [errW_none, errW_some] <;> rfl) | (simp [*, errW_none, errW_some] <;> rfl), by (with_reducible repeat (first | apply Kd.V_alloc | apply Kd.V_drewN | apply Kd.V_drew)); exact Kd.V_mono (Kd.V_far (p := ⟨gb536, 1, none⟩) (Kd.V_far (p := ⟨gb536, 0, none⟩) (Kd.V_mono HO548.out (fun k_ hk => (⟨hk, hk.2.2⟩ : _ ∧ k_ ≠ gb536))) (fun _ hk => hk.2) (.int .i64 t545)) (fun _ hk => hk.2) (.slice Ao57 t546.length co57)) (fun _ hk => hk.1.1), HB_⟩

      rw [if_pos c16] at H
      have c16b0 : (a1 == a2) = true := beq_iff_eq.mpr c16
      have c16b1 : (a1 != a2) = false := bne_eq_false_iff_eq.mpr c16
      clear c16
      obtain ⟨y549, hy549⟩ : ∃ y_ : List Int, y_ = (([] : List Int)) := ⟨_, rfl⟩
      replace H : (if y549.length + l0_1.length < 17592186044416 then (warrantorref09_Let.l0 kj4 a1 a3 (wrap64 (a0_0 + 1)) (y549 ++ l0_1) 0 a0_0 l0_1) else (none)) = some (r1, r2) := by first | (rw [hy549]; with_reducible exact H) | (have H2_ := (Option.bind_some _ _).symm.trans H; rw [hy549]; with_reducible exact H2_) | (have H2_ := (Option.bind_some _ _).symm.trans H; with_reducible exact H2_) | with_reducible exact H | (rw [hy549]; exact H) | exact H
      have Ny549 := Aside0.mk hy549
      clear hy549
      replace H := yes_ H
      obtain ⟨c17, H⟩ := H
      have LMc17 := Aside0.mk c17
      clear c17
      obtain ⟨y552, hy552⟩ : ∃ y_ : List Int, y_ = (y549 ++ l0_1) := ⟨_, rfl⟩
      replace H : (warrantorref09_Let.l0 kj4 a1 a3 (wrap64 (a0_0 + 1)) y552 0 a0_0 l0_1) = some (r1, r2) := by first | (rw [hy552]; with_reducible exact H) | (have H2_ := (Option.bind_some _ _).symm.trans H; rw [hy552]; with_reducible exact H2_) | (have H2_ := (Option.bind_some _ _).symm.trans H; with_reducible exact H2_) | with_reducible exact H | (rw [hy552]; exact H) | exact H
      have Ny552 := Aside0.mk hy552
      clear hy552
      have H' := Aside0.mk H
      clear H
      have hnb18 := NB535_536.out
      have hnc18 := NB536_535.out
      obtain ⟨hcz19_0, hcz19_1, hfz19_0, hfz19_1⟩ := cz2_ BK535
      go_wp2_with (first | ((with_reducible refine gate_dst (N := 45) rfl ?_); (try (refine gate_guard (by rfl) ?_; dsimp only)); refine Kd.R_lit (Kd.int .i64) _ 3 ?hg (N := 45) ?hd (xs := ([] : List Int)) (inner := []) (ok := fun _ => True) (okp := fun _ => True) ?hr ?hp (fun _ hk => hk) trivial (Below.refl _ _) (Nat.le_refl _) (by simp) ?_; (case hd => rfl); (case hg => rfl); (case hr => first | (go_simp; done) | (go_simp; rfl)); (case hp => exact (Reps.none _ _)); intro v550 w20 ho21 hb hg_ hnew_; clear hg_ hnew_; (first | rw [← Ny549.out] at ho21 | (simp only [Int.reduceToNat] at ho21; rw [← Ny549.out] at ho21)); have n_ := a_ (Aside0.mk (Kd.V_elder' (by (with_reducible repeat (first | apply Kd.V_alloc | apply Kd.V_drewN | apply Kd.V_drew)); exact HO_536001.out) (Kd.R_base ho21) hb)) (a_ (Aside0.mk (Kd.R_lower (Kd.R_newM (M := fun k_ => (w.heap.size ≤ k_)) ho21 (below_size HB_) (fun k_ h_ => h_)) (below_size HB_))) (a_ (bb_ BK535 hb) (a_ (bb_ BK536 hb) (bs_ HB hb)))); clear HO_536001 BK535 BK536 HB; obtain ⟨HO_536001, HO551, BK535, BK536, HB⟩ := n_; clear hb ho21; obtain ⟨hcz22_0, hcz22_1, hfz22_0, hfz22_1⟩ := cz2_ BK535) | ((with_reducible refine gate_builtin (b := .append) (xs := #[.tmp 45, .tmp 47]) rfl ?_); (try (refine gate_guard (by rfl) ?_; dsimp only)); at_builtin; refine Kd.R_append_rows (Kd.int .i64) (w0 := w) w.heap.size rfl (.tmp 45) (.tmp 47) 22 3 (.int .i64 0) 8 rfl Try.underlying22 info3 rfl (by decide) (by omega) v550 y549 l0_1 _ _ _ (fun k_ => (w.heap.size ≤ k_)) (fun _ => False) rfl rfl ?aO ?aR (fun _ _ h => h) (fun _ h => h.elim) ?aF ?aB ?aS ?aL ?_; (case aR => repeat (first | exact (Kd.V_reads' HO_536001.out).2.2 | (with_reducible refine Kd.C_alloc ?_ _) | (with_reducible refine Kd.C_drewN ?_ _) | (with_reducible refine Kd.C_drew ?_))); (case aB => exact HB_); (case aF => exact (fun k_ hk => (Nat.le_trans (below_size HB_) hk))); (case aO => exact (rd_ (Kd.R_mono HO551.out (fun _ hk => hk.1)))); (case aS => exact (below_size HB_)); (case aL => have := LMc17.out; omega); intro v553 w23 ho hb hg hat; rw [← Ny552.out] at ho; have n_ := a_ (Aside0.mk (Kd.V_afterv (ok := (fun k_ => (P0_1_ k_ ∨ w.heap.size ≤ k_) ∧ k_ ≠ gb535 ∧ k_ ≠ gb536)) (by (with_reducible repeat (first | apply Kd.V_alloc | apply Kd.V_drewN | apply Kd.V_drew)); exact HO_536001.out) hg hat)) (a_ (Aside0.mk (blk_grown (g := gb535) (o := .cells #[.int .i64 a0_0, .slice A0_1 l0_1.length c0_1] 24 (0, 0)) (bk_ BK535.out) hg (Kd.R_ne HO551.out BK535.out (by decide)))) (a_ (Aside0.mk (blk_grown (g := gb536) (o := .cells #[.int .i64 0, .slice none 0 0] 24 (0, 0)) (bk_ BK536.out) hg (Kd.R_ne HO551.out BK536.out (by decide)))) (a_ (Aside0.mk hb) (Aside0.mk ho)))); clear HO_536001 BK535 BK536 HB HO551; obtain ⟨HO_536001, BK535, BK536, HB, HO554⟩ := n_; clear ho hb hg hat))
      go_loopg [11] kj4 (fun kq v11 w' => ∃ (x10_2 : List Int) (x11_2 : Int), v11 = .int .i64 x11_2 ∧ Aside0 (warrantorref09_Let.l0 kq a1 a3 (wrap64 (a0_0 + 1)) x10_2 x11_2 a0_0 l0_1 = some (r1, r2)) ∧ Aside0 (kq ≤ kj4) ∧ Aside0 (Kd.R (Kd.int .i64) 3 w' w.heap.size (fun k_ => (w.heap.size ≤ k_)) v553 x10_2) ∧ Aside0 (Kd.V (Kd.int .i64) 3 w' w.heap.size (fun k_ => (P0_1_ k_ ∨ w.heap.size ≤ k_) ∧ some k_ ≠ (v553 : Value).ownBlock ∧ k_ ≠ gb535 ∧ k_ ≠ gb536) (.slice A0_1 l0_1.length c0_1) l0_1) ∧ Aside0 (w'.heap[gb535]? = some (.cells #[.int .i64 a0_0, (.slice A0_1 l0_1.length c0_1)] 24 (0, 0))) ∧ Aside0 (w'.heap[gb536]? = some (.cells #[.int .i64 0, (.slice none 0 0)] 24 (0, 0))) ∧ Aside0 (Below w.heap.size w w'))
      case atStart => exact ⟨(y552), (0), (by first | rfl | (simp; done) | (simp [*]; done)), H', ⟨Nat.le_refl _⟩, ⟨by (with_reducible repeat (first | apply Kd.R_alloc | apply Kd.R_drewN | apply Kd.R_drew)); exact HO554.out⟩, ⟨by (with_reducible repeat (first | apply Kd.V_alloc | apply Kd.V_drewN | apply Kd.V_drew)); exact Kd.V_mono HO_536001.out (fun _ hk => ⟨hk.1.1, ⟨hk.2, ⟨hk.1.2.1, hk.1.2.2⟩⟩⟩)⟩, ⟨by (with_reducible repeat (first | refine blk_drewN ?_ _ | refine blk_drew ?_ | refine blk_alloc ?_ _)); exact BK535.out⟩, ⟨by (with_reducible repeat (first | refine blk_drewN ?_ _ | refine blk_drew ?_ | refine blk_alloc ?_ _)); exact BK536.out⟩, ⟨HB_⟩⟩
      case round =>
        clear H'
        try clear c1
        try clear p2
        try clear c3
        try clear p6
        try clear c8
        try clear c8b0
        try clear c9
        try clear c9b0
        try clear c10
        try clear c12
        try clear c13
        try clear c16
        try clear c16b0
        try clear c16b1
        try clear c17
        try clear c18
        try clear hcz11_0
        try clear hcz11_1
        try clear hcz14_0
        try clear hcz14_1
        try clear hcz15_0
        try clear hcz15_1
        try clear hcz19_0
        try clear hcz19_1
        try clear hcz22_0
        try clear hcz22_1
        try clear hfz11_0
        try clear hfz11_1
        try clear hfz14_0
        try clear hfz14_1
        try clear hfz15_0
        try clear hfz15_1
        try clear hfz19_0
        try clear hfz19_1
        try clear hfz22_0
        try clear hfz22_1
        try clear p2
        obtain ⟨x10_2, x11_2, rfl, HA, HK2, HO_10, HO_536001, BK535, BK536, HB⟩ := hrel
        cases gk with
        | zero => exact absurd HA.out (by simp [warrantorref09_Let.l0])
        | succ k2 =>
          have H := HA.out
          clear HA
          simp only [warrantorref09_Let.l0] at H
          by_cases c24 : x11_2 < (wrap64 (a0_0 + 1))
          rotate_left
          · rw [if_neg c24] at H
            have c24b0 : decide (x11_2 < (wrap64 (a0_0 + 1))) = false := decide_eq_false c24
            have c24b0v : decide (x11_2 < (IntKind.i64.wrap (a0_0 + 1))) = false := by (try simp only [i64_w]); exact c24b0
            clear c24
            replace H := Option.bind_eq_some_iff.mp H
            obtain ⟨⟨t559, t560⟩, A390, H⟩ := H
            replace H : (some (t559, t560)) = some (r1, r2) := H
            have A39 := Aside0.mk A390
            clear A390
            simp only [Option.some.injEq, Prod.mk.injEq] at H
            obtain ⟨rfl, rfl⟩ := H
            have hnb40 := NB535_536.out
            have hnc40 := NB536_535.out
            obtain ⟨hcz41_0, hcz41_1, hfz41_0, hfz41_1⟩ := cz2_ BK535
            obtain ⟨Ao42, co42, eo42⟩ := Kd.R_slice HO_10.out
            subst eo42
            go_wp2_with (first | ((with_reducible refine gate_callee (f := 76) rfl ?_); refine goesL_ (some 94) rfl rfl Try.func76 (by kernel_rfl) rfl #[.int .i64 a0_0, .slice Ao42 x10_2.length co42] rfl MP_ ?_; (with_reducible refine (warrantorref08_Close.calls k2 a0_0 _ _ x10_2 t559 t560 _ ?side1 ?side2 A39.out).mono ?_); (case side1 => repeat (first | exact (Kd.R_reads' HO_10.out).2.2 | (with_reducible refine Kd.C_alloc ?_ _) | (with_reducible refine Kd.C_drewN ?_ _) | (with_reducible refine Kd.C_drew ?_))); (case side2 => exact (Kd.R_reads' HO_10.out).2.1); rintro e w43 ⟨v561, rfl, ho0, hb⟩; refine ⟨_, rfl, ?_⟩; have n_ := a_ (Aside0.mk (Kd.R_elder' (rd_ HO_10.out) (Kd.R_base ho0) hb)) (a_ (Aside0.mk (Kd.V_elder' (by (with_reducible repeat (first | apply Kd.V_alloc | apply Kd.V_drewN | apply Kd.V_drew)); exact HO_536001.out) (Kd.R_base ho0) hb)) (a_ (Aside0.mk (Kd.R_lower (Kd.R_new' (Kd.R_newM (M := fun k_ => (w.heap.size ≤ k_)) ho0 (below_size HB_) (fun k_ h_ => h_)) (Kd.R_lt (rd_ HO_10.out))) (below_size HB_))) (a_ (bb_ BK535 hb) (a_ (bb_ BK536 hb) (bs_ HB hb))))); clear HO_10 HO_536001 BK535 BK536 HB; obtain ⟨HO_10, HO_536001, HO562, BK535, BK536, HB⟩ := n_; (try clear hb); (try clear hb2); (try clear hk); (try clear hi); (try clear ho0); obtain ⟨hcz44_0, hcz44_1, hfz44_0, hfz44_1⟩ := cz2_ BK536; obtain ⟨Ao45, co45, eo45⟩ := Kd.R_slice HO562.out; subst eo45))
            refine bodyPost_ret (results_cell_row rfl _ _ gb536 24 #[.int .i64 t559, .slice Ao45 t560.length co45] (0, 0) _ rfl (bk2_ BK536.out) Try.underlying24 rfl (by kernel_rfl)) rfl ?_
            exact ⟨_, by first | rfl | (simp [errW_none, errW_some] <;> rfl) | (simp [*, errW_none, errW_some] <;> rfl), Kd.V_mono (Kd.R_V (rd_ (Kd.R_mono (Kd.R_far (p := ⟨gb536, 1, none⟩) (Kd.R_far (p := ⟨gb536, 0, none⟩) (Kd.R_types HO562.out BK536.out (by decide)) (fun _ hk => hk.2) (.int .i64 t559)) (fun _ hk => hk.2) (.slice Ao45 t560.length co45)) (fun _ hk => hk.1.1.1)))) (fun k_ hk => by first | exact ⟨(.inr (hk.1)), hk.2⟩ | exact (.inr (hk))), HB_⟩
          rw [if_pos c24] at H
          have c24b0 : decide (x11_2 < (wrap64 (a0_0 + 1))) = true := decide_eq_true c24
          have c24b0v : decide (x11_2 < (IntKind.i64.wrap (a0_0 + 1))) = true := by (try simp only [i64_w]); exact c24b0
          clear c24
          by_cases c25 : x11_2 = a1
          · rw [if_pos c25] at H
            have c25b0 : (x11_2 == a1) = true := beq_iff_eq.mpr c25
            have c25b1 : (x11_2 != a1) = false := bne_eq_false_iff_eq.mpr c25
            clear c25
            have H' := Aside0.mk H
            clear H
            go_wp2
            go_roundg k2
            case measure => have := HJ4.out; have := HK2.out; omega
            case rel => exact ⟨(x10_2), (wrap64 (x11_2 + 1)), (by first | rfl | (simp; done) | (simp [*]; done)), H', ⟨by have := HJ4.out; have := HK2.out; omega⟩, ⟨by (with_reducible repeat (first | apply Kd.R_alloc | apply Kd.R_drewN | apply Kd.R_drew)); exact HO_10.out⟩, ⟨by (with_reducible repeat (first | apply Kd.V_alloc | apply Kd.V_drewN | apply Kd.V_drew)); exact HO_536001.out⟩, ⟨by (with_reducible repeat (first | refine blk_drewN ?_ _ | refine blk_drew ?_ | refine blk_alloc ?_ _)); exact BK535.out⟩, ⟨by (with_reducible repeat (first | refine blk_drewN ?_ _ | refine blk_drew ?_ | refine blk_alloc ?_ _)); exact BK536.out⟩, ⟨HB_⟩⟩
          rw [if_neg c25] at H
          have c25b0 : (x11_2 == a1) = false := beq_eq_false_iff_ne.mpr c25
          have c25b1 : (x11_2 != a1) = true := bne_iff_ne.mpr c25
          obtain ⟨ji26, hji26⟩ : ∃ j_ : Int, (wrap64 ((wrap64 (a1 * (wrap64 (a0_0 + 1)))) + x11_2)) = j_ := ⟨_, rfl⟩
          replace H : (if 0 ≤ (ji26) then (if (ji26) < (x10_2.length : Int) then ((some (x10_2.set ((ji26) : Int).toNat (wrap64 ((rd x10_2 (ji26)) + a3)) : List Int)).bind fun y556 => (if 0 ≤ (wrap64 ((wrap64 (x11_2 * (wrap64 (a0_0 + 1)))) + a1)) then (if (wrap64 ((wrap64 (x11_2 * (wrap64 (a0_0 + 1)))) + a1)) < (x10_2.length : Int) then (warrantorref09_Let.l0 k2 a1 a3 (wrap64 (a0_0 + 1)) (y556.set ((wrap64 ((wrap64 (x11_2 * (wrap64 (a0_0 + 1)))) + a1)) : Int).toNat (wrap64 ((rd y556 (wrap64 ((wrap64 (x11_2 * (wrap64 (a0_0 + 1)))) + a1))) - a3))) (wrap64 (x11_2 + 1)) a0_0 l0_1) else (none)) else (none))) else (none)) else (none)) = some (r1, r2) := by first | (rw [hji26] at H; exact H) | (simp only [hji26] at H ⊢; exact H)
          have hji26w : (IntKind.i64.wrap ((wrap64 (a1 * (wrap64 (a0_0 + 1)))) + x11_2)) = ji26 := (i64_w _).trans hji26
          have hji26v : (IntKind.i64.wrap ((IntKind.i64.wrap (a1 * (IntKind.i64.wrap (a0_0 + 1)))) + x11_2)) = ji26 := by (try simp only [i64_w]); first | exact hji26 | exact hji26w
          replace H := yes_ H
          obtain ⟨c27, H⟩ := H
          have c27b0 : decide (0 ≤ (ji26)) = true := decide_eq_true c27
          clear c27
          replace H := yes_ H
          obtain ⟨c28, H⟩ := H
          have c28b0 : decide ((ji26) < (x10_2.length : Int)) = true := decide_eq_true c28
          clear c28
          obtain ⟨y556, hy556⟩ : ∃ y_ : List Int, y_ = (x10_2.set ((ji26) : Int).toNat (wrap64 ((rd x10_2 (ji26)) + a3))) := ⟨_, rfl⟩
          replace H : (if 0 ≤ (wrap64 ((wrap64 (x11_2 * (wrap64 (a0_0 + 1)))) + a1)) then (if (wrap64 ((wrap64 (x11_2 * (wrap64 (a0_0 + 1)))) + a1)) < (x10_2.length : Int) then (warrantorref09_Let.l0 k2 a1 a3 (wrap64 (a0_0 + 1)) (y556.set ((wrap64 ((wrap64 (x11_2 * (wrap64 (a0_0 + 1)))) + a1)) : Int).toNat (wrap64 ((rd y556 (wrap64 ((wrap64 (x11_2 * (wrap64 (a0_0 + 1)))) + a1))) - a3))) (wrap64 (x11_2 + 1)) a0_0 l0_1) else (none)) else (none)) = some (r1, r2) := by first | (rw [hy556]; with_reducible exact H) | (have H2_ := (Option.bind_some _ _).symm.trans H; rw [hy556]; with_reducible exact H2_) | (have H2_ := (Option.bind_some _ _).symm.trans H; with_reducible exact H2_) | with_reducible exact H | (rw [hy556]; exact H) | exact H
          have Ny556 := Aside0.mk hy556
          clear hy556
          obtain ⟨ji30, hji30⟩ : ∃ j_ : Int, (wrap64 ((wrap64 (x11_2 * (wrap64 (a0_0 + 1)))) + a1)) = j_ := ⟨_, rfl⟩
          replace H : (if 0 ≤ (ji30) then (if (ji30) < (x10_2.length : Int) then (warrantorref09_Let.l0 k2 a1 a3 (wrap64 (a0_0 + 1)) (y556.set ((ji30) : Int).toNat (wrap64 ((rd y556 (ji30)) - a3))) (wrap64 (x11_2 + 1)) a0_0 l0_1) else (none)) else (none)) = some (r1, r2) := by first | (rw [hji30] at H; exact H) | (simp only [hji30] at H ⊢; exact H)
          have hji30w : (IntKind.i64.wrap ((wrap64 (x11_2 * (wrap64 (a0_0 + 1)))) + a1)) = ji30 := (i64_w _).trans hji30
          have hji30v : (IntKind.i64.wrap ((IntKind.i64.wrap (x11_2 * (IntKind.i64.wrap (a0_0 + 1)))) + a1)) = ji30 := by (try simp only [i64_w]); first | exact hji30 | exact hji30w
          replace H := yes_ H
          obtain ⟨c31, H⟩ := H
          have c31b0 : decide (0 ≤ (ji30)) = true := decide_eq_true c31
          clear c31
          replace H := yes_ H
          obtain ⟨c32, H⟩ := H
          have c32b0 : decide ((ji30) < (x10_2.length : Int)) = true := decide_eq_true c32
          clear c32
          obtain ⟨y558, hy558⟩ : ∃ y_ : List Int, y_ = (y556.set ((ji30) : Int).toNat (wrap64 ((rd y556 (ji30)) - a3))) := ⟨_, rfl⟩
          replace H : (warrantorref09_Let.l0 k2 a1 a3 (wrap64 (a0_0 + 1)) y558 (wrap64 (x11_2 + 1)) a0_0 l0_1) = some (r1, r2) := by first | (rw [hy558]; with_reducible exact H) | (have H2_ := (Option.bind_some _ _).symm.trans H; rw [hy558]; with_reducible exact H2_) | (have H2_ := (Option.bind_some _ _).symm.trans H; with_reducible exact H2_) | with_reducible exact H | (rw [hy558]; exact H) | exact H
          have Ny558 := Aside0.mk hy558
          clear hy558
          have H' := Aside0.mk H
          clear H
          obtain ⟨Ao34, co34, eo34⟩ := Kd.R_slice HO_10.out
          subst eo34
          have p555 : 0 ≤ ((ji26) : Int) := of_decide_eq_true (by first | (with_reducible assumption) | assumption)
          have q555 : (ji26) < (x10_2.length : Int) := of_decide_eq_true (by first | (with_reducible assumption) | assumption)
          obtain ⟨ad555, e555, hx555_0⟩ := Kd.at_int (Kd.R_reads' HO_10.out).2.2 (ji26) p555 q555
          cases e555
          replace p555 := eq_true p555
          replace q555 := eq_true q555
          have p29 : 0 ≤ ((ji26) : Int) := of_decide_eq_true (by first | (with_reducible assumption) | assumption)
          have q29 : ((ji26) : Int) < ((x10_2.length : Int) : Int) := of_decide_eq_true (by first | (with_reducible assumption) | assumption)
          obtain ⟨go29, co29, eo29, gb29, gl29, cl29, HG29⟩ := Kd.R_form HO_10.out (by omega)
          (first | cases eo29 | (injection eo29 with ea_ en_ ec_; (first | subst ea_ | (injection ea_ with ea_; subst ea_)); subst ec_; clear en_))
          have GB29 := Aside0.mk gb29
          have GG29 := Aside0.mk HG29
          clear gb29 gl29 HG29
          (first | simp only [add_plain] at hx555_0 | skip)
          obtain ⟨hx29_0, hf29_0⟩ := Kd.R_celln 0 HO_10.out ((ji26) : Int) p29 q29
          replace p29 := eq_true p29
          replace q29 := eq_true q29
          have HP35 := Kd.R_putg HO_10.out ((ji26) : Int) (wrap64 ((rd x10_2 (ji26)) + a3))
          go_wp2_with (first | ((with_reducible refine gate_store (t := 3) (p := 73) rfl ?_); refine store_event (t := 3) (p := 73) (v := ?vo_w36) (w1 := (wr.setCell ⟨go29, ((ji26) : Int).toNat, none⟩ (.int .i64 (wrap64 ((rd x10_2 (ji26)) + a3))))) ?hg ?ho ?hn ?hr ?_; (case ho => rfl); (case hg => rfl); (case hn => rfl); (case hr => first | (go_simp; done) | (go_simp; rfl)); intro w36 hw; have hg : wr.grownBy w36 (some go29) := (by rw [hw]; exact HP35.2); have hp_ : Kd.R (Kd.int .i64) 3 w36 w.heap.size (fun k_ => (w.heap.size ≤ k_)) (.slice (some ⟨go29, 0, none⟩) x10_2.length co34) y556 := (by rw [hw, Ny556.out]; exact HP35.1); clear HP35; have n_ := a_ (Aside0.mk hp_) (a_ (Aside0.mk (Kd.V_afterv (v := (.slice (some ⟨go29, 0, none⟩) x10_2.length co34)) (v1 := (.slice (some ⟨go29, 0, none⟩) x10_2.length co34)) (ok := (fun k_ => (P0_1_ k_ ∨ w.heap.size ≤ k_) ∧ k_ ≠ gb535 ∧ k_ ≠ gb536)) (by (with_reducible repeat (first | apply Kd.V_alloc | apply Kd.V_drewN | apply Kd.V_drew)); exact Kd.V_mono HO_536001.out (fun _ hk => ⟨⟨hk.1, ⟨hk.2.2.1, hk.2.2.2⟩⟩, hk.2.1⟩)) hg (.inl rfl))) (a_ (Aside0.mk (blk_grown (g := gb535) (o := .cells #[.int .i64 a0_0, .slice A0_1 l0_1.length c0_1] 24 (0, 0)) (bk_ BK535.out) hg (Kd.R_ne HO_10.out BK535.out (by decide)))) (a_ (Aside0.mk (blk_grown (g := gb536) (o := .cells #[.int .i64 0, .slice none 0 0] 24 (0, 0)) (bk_ BK536.out) hg (Kd.R_ne HO_10.out BK536.out (by decide)))) (Aside0.mk (by rw [hw]; exact below_set (HB.out) GB29.out : Below w.heap.size w w36))))); clear HO_10 HO_536001 BK535 BK536 HB; obtain ⟨HO_10, HO_536001, BK535, BK536, HB⟩ := n_; clear hg hw hp_; have p557 : 0 ≤ ((ji30) : Int) := of_decide_eq_true (by first | (with_reducible assumption) | assumption); have q557 : (ji30) < (y556.length : Int) := (by have h_ : ((ji30) : Int) < ((x10_2.length : Int) : Int) := of_decide_eq_true (by first | (with_reducible assumption) | assumption); first | (have e_ := (Kd.R_reads' HO_10.out).1; omega) | simpa only [Ny556.out, List.length_set] using h_); have ql557 : (((ji30) : Int) < ((x10_2.length : Int) : Int)) = True := eq_true (of_decide_eq_true (by first | (with_reducible assumption) | assumption)); obtain ⟨ad557, e557, hx557_0⟩ := Kd.at_int (Kd.R_reads' HO_10.out).2.2 (ji30) p557 q557; obtain rfl : (⟨go29, 0, none⟩ : Addr) = ad557 := (by injection e557); (first | simp only [add_plain] at hx557_0 | simp only [add_at] at hx557_0 | simp only [Addr.add, Nat.zero_add] at hx557_0 | skip); replace p557 := eq_true p557; replace q557 := eq_true q557; have p33 : 0 ≤ ((ji30) : Int) := of_decide_eq_true (by first | (with_reducible assumption) | assumption); have q33 : ((ji30) : Int) < ((x10_2.length : Int) : Int) := of_decide_eq_true (by first | (with_reducible assumption) | assumption); obtain ⟨hx33_0, hf33_0⟩ := Kd.R_celln 0 HO_10.out ((ji30) : Int) p33 q33; replace p33 := eq_true p33; replace q33 := eq_true q33; obtain ⟨hy37_, hz37_⟩ := Kd.R_celln 0 HO_10.out ((ji30) : Int) (of_decide_eq_true (by first | (with_reducible assumption) | assumption)) (of_decide_eq_true (by first | (with_reducible assumption) | assumption)); have HP37 := Kd.R_putg HO_10.out ((ji30) : Int) (wrap64 ((rd y556 (ji30)) - a3))) | ((with_reducible refine gate_store (t := 3) (p := 90) rfl ?_); refine store_event (t := 3) (p := 90) (v := ?vo_w38) (w1 := (w36.setCell ⟨go29, ((ji30) : Int).toNat, none⟩ (.int .i64 (wrap64 ((rd y556 (ji30)) - a3))))) ?hg ?ho ?hn ?hr ?_; (case ho => rfl); (case hg => rfl); (case hn => rfl); (case hr => first | (go_simp; done) | (go_simp; rfl)); intro w38 hw; have hg : w36.grownBy w38 (some go29) := (by rw [hw]; exact HP37.2); have hp_ : Kd.R (Kd.int .i64) 3 w38 w.heap.size (fun k_ => (w.heap.size ≤ k_)) (.slice (some ⟨go29, 0, none⟩) x10_2.length co34) y558 := (by rw [hw, Ny558.out]; exact HP37.1); clear HP37; have n_ := a_ (Aside0.mk hp_) (a_ (Aside0.mk (Kd.V_afterv (v := (.slice (some ⟨go29, 0, none⟩) x10_2.length co34)) (v1 := (.slice (some ⟨go29, 0, none⟩) x10_2.length co34)) (ok := (fun k_ => (P0_1_ k_ ∨ w.heap.size ≤ k_) ∧ k_ ≠ gb535 ∧ k_ ≠ gb536)) (by (with_reducible repeat (first | apply Kd.V_alloc | apply Kd.V_drewN | apply Kd.V_drew)); exact HO_536001.out) hg (.inl rfl))) (a_ (Aside0.mk (blk_grown (g := gb535) (o := .cells #[.int .i64 a0_0, .slice A0_1 l0_1.length c0_1] 24 (0, 0)) (bk_ BK535.out) hg (Kd.R_ne HO_10.out BK535.out (by decide)))) (a_ (Aside0.mk (blk_grown (g := gb536) (o := .cells #[.int .i64 0, .slice none 0 0] 24 (0, 0)) (bk_ BK536.out) hg (Kd.R_ne HO_10.out BK536.out (by decide)))) (Aside0.mk (by rw [hw]; exact below_set (HB.out) GB29.out : Below w.heap.size w w38))))); clear HO_10 HO_536001 BK535 BK536 HB; obtain ⟨HO_10, HO_536001, BK535, BK536, HB⟩ := n_; clear hg hw hp_))
          go_roundg k2
          case measure => have := HJ4.out; have := HK2.out; omega
          case rel => exact ⟨(y558), (wrap64 (x11_2 + 1)), (by first | rfl | (simp; done) | (simp [*]; done)), H', ⟨by have := HJ4.out; have := HK2.out; omega⟩, ⟨by (with_reducible repeat (first | apply Kd.R_alloc | apply Kd.R_drewN | apply Kd.R_drew)); exact HO_10.out⟩, ⟨by (with_reducible repeat (first | apply Kd.V_alloc | apply Kd.V_drewN | apply Kd.V_drew)); exact Kd.V_mono HO_536001.out (fun _ hk => ⟨hk.1.1, ⟨hk.2, ⟨hk.1.2.1, hk.1.2.2⟩⟩⟩)⟩, ⟨by (with_reducible repeat (first | refine blk_drewN ?_ _ | refine blk_drew ?_ | refine blk_alloc ?_ _)); exact BK535.out⟩, ⟨by (with_reducible repeat (first | refine blk_drewN ?_ _ | refine blk_drew ?_ | refine blk_alloc ?_ _)); exact BK536.out⟩, ⟨HB_⟩⟩
end Go.Proofs.Ytgeemdpflcefkaa.Z
