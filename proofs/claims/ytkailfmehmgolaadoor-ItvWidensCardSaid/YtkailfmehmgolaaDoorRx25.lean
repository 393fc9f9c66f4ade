-- WRITTEN BY this session's program wip/ext.py, in print.py's manner
import Derived.Test.YtkailfmehmgolaaDoorRx0
import Derived.Test.YtkailfmehmgolaaDoorRx3
import Derived.Test.YtkailfmehmgolaaDoorRx5
import Derived.Test.YtkailfmehmgolaaDoorRx6
import Derived.Test.YtkailfmehmgolaaDoorRx7
import Derived.Test.YtkailfmehmgolaaDoorRx14
namespace Go.Proofs.YtkailfmehmgolaaDoor.R
open Go.RowKit Go.Proofs.YtkailfmehmgolaaDoorW.PrintWords Go.Proofs.YtkailfmehmgolaaDoorW.PrintLast Go.Proofs.YtkailfmehmgolaaDoorW.PrintMore
attribute [local go_sem] max2_int min2_int max_two min_two max_three min_three max_four min_four   -- for this text's walks alone
set_option linter.unusedVariables false
set_option linter.unusedSimpArgs false

/-! ### warrantorlaw07_ItvWidens: function 6 -/
mutual
def warrantorlaw07_ItvWidens.l0 : Nat → List (S23) → Int → Int → Int → Int → Option (Bool)
  | 0, _, _, _, _, _ => none
  | k + 1, x1, x5, x6, x528000, x528001 => if x6 < (x1.length : Int) then (if 0 ≤ x6 then ((itv_Join.f x528000 x528001 ((rd_T23 x1 x6).f0) ((rd_T23 x1 x6).f1)).bind fun bt531 => ((itv_Widen.f x528000 x528001 bt531.1 bt531.2).bind fun bt533 => ((itv_Leq.f x528000 x528001 bt533.1 bt533.2).bind fun t536 => (if t536 = true then ((itv_Leq.f ((rd_T23 x1 x6).f0) ((rd_T23 x1 x6).f1) bt533.1 bt533.2).bind fun t538 => (warrantorlaw07_ItvWidens.j1 k x1 x5 x6 (!t538) x528000 x528001 bt533.1 bt533.2)) else (warrantorlaw07_ItvWidens.j1 k x1 x5 x6 true x528000 x528001 bt533.1 bt533.2))))) else (none)) else ((warrantorlaw07_lives.f k).bind fun t529 => (if t529 = true then (some (decide (x5 ≤ 3))) else (some false)))
def warrantorlaw07_ItvWidens.j1 : Nat → List (S23) → Int → Int → Bool → Int → Int → Int → Int → Option (Bool)
  | 0, _, _, _, _, _, _, _, _ => none
  | k + 1, x1, x5, x6, x38, x528000, x528001, x536000, x536001 => if x38 = true then (some false) else ((itv_Same.f x528000 x528001 x536000 x536001).bind fun t539 => (if t539 = true then (warrantorlaw07_ItvWidens.l0 k x1 x5 (wrap64 (x6 + 1)) x536000 x536001) else (warrantorlaw07_ItvWidens.l0 k x1 (wrap64 (x5 + 1)) (wrap64 (x6 + 1)) x536000 x536001)))
end
def warrantorlaw07_ItvWidens.f (k : Nat) (a0_0 : Int) (a0_1 : Int) (l1 : List (S23)) : Option (Bool) := if (l1.length : Int) > 300 then ((warrantorlaw07_lives.f k).bind fun t528 => (some t528)) else (warrantorlaw07_ItvWidens.l0 k l1 0 0 a0_0 a0_1)
theorem warrantorlaw07_ItvWidens.mono_l : ∀ k, (∀ y0 y1 y2 y3 y4, LeO (warrantorlaw07_ItvWidens.l0 k y0 y1 y2 y3 y4) (warrantorlaw07_ItvWidens.l0 (k + 1) y0 y1 y2 y3 y4)) ∧ (∀ y0 y1 y2 y3 y4 y5 y6 y7, LeO (warrantorlaw07_ItvWidens.j1 k y0 y1 y2 y3 y4 y5 y6 y7) (warrantorlaw07_ItvWidens.j1 (k + 1) y0 y1 y2 y3 y4 y5 y6 y7))
  | 0 => ⟨fun _ _ _ _ _ r h => by simp [warrantorlaw07_ItvWidens.l0] at h, fun _ _ _ _ _ _ _ _ r h => by simp [warrantorlaw07_ItvWidens.j1] at h⟩
  | k + 1 => by
    obtain ⟨ih0, ih1⟩ := warrantorlaw07_ItvWidens.mono_l k
    refine ⟨?_, ?_⟩
    · intro y0 y1 y2 y3 y4
      unfold warrantorlaw07_ItvWidens.l0
      repeat' first
      | (with_reducible exact ih0 _ _ _ _ _)
      | (with_reducible exact ih1 _ _ _ _ _ _ _ _)
      | (with_reducible exact warrantorlaw07_lives.mono _)
      | (with_reducible exact LeO.refl _)
      | (with_reducible exact LeO.none _)
      | (with_reducible refine LeO.ite ?_ ?_)
      | (with_reducible refine LeO.bind ?_ (fun _ => ?_))
      | exact ih0 _ _ _ _ _
      | exact ih1 _ _ _ _ _ _ _ _
      | exact warrantorlaw07_lives.mono _
      | exact LeO.none _
      | refine LeO.ite ?_ ?_
      | refine LeO.bind ?_ (fun _ => ?_)
    · intro y0 y1 y2 y3 y4 y5 y6 y7
      unfold warrantorlaw07_ItvWidens.j1
      repeat' first
      | (with_reducible exact ih0 _ _ _ _ _)
      | (with_reducible exact ih1 _ _ _ _ _ _ _ _)
      | (with_reducible exact warrantorlaw07_lives.mono _)
      | (with_reducible exact LeO.refl _)
      | (with_reducible exact LeO.none _)
      | (with_reducible refine LeO.ite ?_ ?_)
      | (with_reducible refine LeO.bind ?_ (fun _ => ?_))
      | exact ih0 _ _ _ _ _
      | exact ih1 _ _ _ _ _ _ _ _
      | exact warrantorlaw07_lives.mono _
      | exact LeO.none _
      | refine LeO.ite ?_ ?_
      | refine LeO.bind ?_ (fun _ => ?_)
theorem warrantorlaw07_ItvWidens.mono : ∀ a0 a1 a2 k, LeO (warrantorlaw07_ItvWidens.f k a0 a1 a2) (warrantorlaw07_ItvWidens.f (k + 1) a0 a1 a2) := by
  intro a0 a1 a2 k
  obtain ⟨ih0, ih1⟩ := warrantorlaw07_ItvWidens.mono_l k
  unfold warrantorlaw07_ItvWidens.f
  repeat' first
      | (with_reducible exact ih0 _ _ _ _ _)
      | (with_reducible exact ih1 _ _ _ _ _ _ _ _)
      | (with_reducible exact warrantorlaw07_lives.mono _)
      | (with_reducible exact LeO.refl _)
      | (with_reducible exact LeO.none _)
      | (with_reducible refine LeO.ite ?_ ?_)
      | (with_reducible refine LeO.bind ?_ (fun _ => ?_))
      | exact ih0 _ _ _ _ _
      | exact ih1 _ _ _ _ _ _ _ _
      | exact warrantorlaw07_lives.mono _
      | exact LeO.none _
      | refine LeO.ite ?_ ?_
      | refine LeO.bind ?_ (fun _ => ?_)
def warrantorlaw07_ItvWidens.T7 : Bool × List (List Nat × List Nat) := (true, [([], []), ([], []), ([], []), ([], []), ([2, 3], [2, 3]), ([4], [4]), ([1, 5], [1, 5]), ([0, 6, 6], [0, 6]), ([], []), ([8, 7, 7, 0, 1, 2, 3, 4, 5, 6, 7, 8], [7, 8])])
def warrantorlaw07_ItvWidens.B7 : List Nat := [0, 0, 0, 0, 12, 28, 62, 127, 0, 511]
theorem warrantorlaw07_ItvWidens.tab7 : rtab .any (opsOf Tryd.f6 7) = warrantorlaw07_ItvWidens.T7 := by kernel_rfl
theorem warrantorlaw07_ItvWidens.bits7 : waitsOk warrantorlaw07_ItvWidens.T7.2 warrantorlaw07_ItvWidens.B7 = true := by kernel_rfl
def warrantorlaw07_ItvWidens.T8 : Bool × List (List Nat × List Nat) := (true, [([], []), ([], []), ([0, 1], [0, 1]), ([2], [2]), ([3, 2], [3]), ([4], [4]), ([4], [4]), ([5, 6, 4], [4, 5, 6]), ([7, 4], [4, 7]), ([4], [4]), ([8, 9, 4, 4], [4, 8, 9]), ([10, 4], [4, 10]), ([4, 11], [4, 11])])
def warrantorlaw07_ItvWidens.B8 : List Nat := [0, 0, 3, 7, 15, 31, 31, 127, 255, 31, 1023, 2047, 4095]
theorem warrantorlaw07_ItvWidens.tab8 : rtab .any (opsOf Tryd.f6 8) = warrantorlaw07_ItvWidens.T8 := by kernel_rfl
theorem warrantorlaw07_ItvWidens.bits8 : waitsOk warrantorlaw07_ItvWidens.T8.2 warrantorlaw07_ItvWidens.B8 = true := by kernel_rfl
set_option maxHeartbeats 8000000 in
set_option maxRecDepth 100000 in
theorem warrantorlaw07_ItvWidens.calls (k : Nat) (a0_0 : Int) (a0_1 : Int) (A1 : Option Addr) (c1 : Nat) (l1 : List (S23)) (r : Bool) (w : World) (hr1 : Kd.C k23 w A1 l1.length l1) (hc1 : l1.length ≤ c1) (htab : TB w) (h : warrantorlaw07_ItvWidens.f k a0_0 a0_1 l1 = some r) :
    Calls Tryd.prog 6 #[.agg #[.int .i64 a0_0, .int .i64 a0_1], .slice A1 l1.length c1] w fun e w' => e = .returned (.bool r) ∧ Below w.heap.size w w' := by
  have HTB := Aside0.mk htab
  clear htab
  have hu23 := Tryd.underlying23
  have HR1 := Aside0.mk hr1
  have HC1 := Aside0.mk hc1
  clear hr1 hc1
  have HB := Aside0.mk (Below.refl w.heap.size w)
  have H : (if (l1.length : Int) > 300 then ((warrantorlaw07_lives.f k).bind fun t528 => (some t528)) else (warrantorlaw07_ItvWidens.l0 k l1 0 0 a0_0 a0_1)) = some r := h
  clear h
  by_cases c3 : (l1.length : Int) > 300
  · rw [if_pos c3] at H
    have c3b0 : decide (300 < (l1.length : Int)) = true := decide_eq_true c3
    have c3b1 : decide (300 < l1.length) = true := decide_eq_true (by omega)
    clear c3
    replace H := Option.bind_eq_some_iff.mp H
    obtain ⟨t528, A40, H⟩ := H
    replace H : (some t528) = some r := H
    have A4 := Aside0.mk A40
    clear A40
    obtain rfl := Option.some.inj H
    go_enter Tryd.func6, Tryd.ntmps6
    go_wp2_with (first | ((with_reducible refine gate_dst (N := 2) rfl ?_); refine box_event ?hg (N := 2) ?hd (cs := #[.int .i64 a0_0, .int .i64 a0_1]) (t := 23) ?hr ?_; (case hd => rfl); (case hg => rfl); (case hr => first | (go_simp; done) | (go_simp; rfl)); intro gb527 hg w5 hbox hb; have n0_ := Aside0.mk (below_step HB_ hb); have n1_ := Aside0.mk (hbox); have n2_ := Aside0.mk ((by rw [hg]; exact (below_size HB_) : w.heap.size ≤ gb527)); have n3_ := Aside0.mk ((by rw [hg]; exact (below_size HB_) : w.heap.size ≤ gb527)); clear HB; have HB := n0_; have BK527 := n1_; have GW527 := n2_; have GE527 := n3_; clear n0_ n1_ n2_ n3_; clear hb hbox hg) | ((with_reducible refine gate_callee (f := 8) rfl ?_); refine goesL_ (some 11) rfl rfl Tryd.func8 (by kernel_rfl) rfl #[] rfl MP_ ?_; (with_reducible refine (warrantorlaw07_lives.calls k  t528 _ (tb_below HTB.out HB_) A4.out).mono ?_); rintro e w6 ⟨rfl, hb⟩; refine ⟨_, rfl, ?_⟩; have n0_ := Aside0.mk (blk_below (g := gb527) (o := .cells #[.int .i64 a0_0, .int .i64 a0_1] 23 (0, 0)) (bk_ BK527.out) hb); have n1_ := Aside0.mk (below_step HB_ hb); clear BK527; clear HB; have BK527 := n0_; have HB := n1_; clear n0_ n1_; (try clear hb); (try clear hb2); (try clear hk); (try clear hi)))
    go_ret
    exact ⟨by first | rfl | (simp [errW_none, errW_some] <;> rfl) | (simp [*, errW_none, errW_some] <;> rfl), by repeat (first | (with_reducible first | exact HB.out | apply below_alloc | apply pw_below_drewN | apply below_drew1 | refine below_set ?_ GE527.out) | exact HB.out)⟩
  · rw [if_neg c3] at H
    have c3b0 : decide (300 < (l1.length : Int)) = false := decide_eq_false c3
    have c3b1 : decide (300 < l1.length) = false := decide_eq_false (by omega)
    clear c3
    have H' := Aside0.mk H
    clear H
    go_enter Tryd.func6, Tryd.ntmps6
    go_wp2_with (first | ((with_reducible refine gate_dst (N := 2) rfl ?_); refine box_event ?hg (N := 2) ?hd (cs := #[.int .i64 a0_0, .int .i64 a0_1]) (t := 23) ?hr ?_; (case hd => rfl); (case hg => rfl); (case hr => first | (go_simp; done) | (go_simp; rfl)); intro gb527 hg w7 hbox hb; have n0_ := Aside0.mk (below_step HB_ hb); have n1_ := Aside0.mk (hbox); have n2_ := Aside0.mk ((by rw [hg]; exact (below_size HB_) : w.heap.size ≤ gb527)); have n3_ := Aside0.mk ((by rw [hg]; exact (below_size HB_) : w.heap.size ≤ gb527)); clear HB; have HB := n0_; have BK527 := n1_; have GW527 := n2_; have GE527 := n3_; clear n0_ n1_ n2_ n3_; clear hb hbox hg))
    go_loopg [5, 6] k (fun kq v5 v6 w' => ∃ (x5_1 : Int) (x6_1 : Int) (x528000_1 : Int) (x528001_1 : Int), v5 = .int .i64 x5_1 ∧ v6 = .int .i64 x6_1 ∧ Aside0 (warrantorlaw07_ItvWidens.l0 kq l1 x5_1 x6_1 x528000_1 x528001_1 = some r) ∧ Aside0 (kq ≤ k) ∧ Aside0 (w'.heap[gb527]? = some (.cells #[.int .i64 x528000_1, .int .i64 x528001_1] 23 (0, 0))) ∧ Aside0 (Below w.heap.size w w'))
    case atStart => exact ⟨(0), (0), (a0_0), (a0_1), (by first | rfl | (simp; done) | (simp [*]; done)), (by first | rfl | (simp; done) | (simp [*]; done)), H', ⟨Nat.le_refl _⟩, ⟨by (with_reducible repeat (first | refine blk_drewN ?_ _ | refine blk_drew ?_ | refine blk_alloc ?_ _)); exact BK527.out⟩, ⟨by repeat (first | (with_reducible first | exact HB.out | apply below_alloc | apply pw_below_drewN | apply below_drew1 | refine below_set ?_ GE527.out) | exact HB.out)⟩⟩
    case round =>
      clear H'
      try clear c1
      try clear p2
      try clear c3
      try clear c3b0
      try clear c3b1
      try clear c6
      obtain ⟨x5_1, x6_1, x528000_1, x528001_1, rfl, rfl, HA, HK1, BK527, HB⟩ := hrel
      cases gk with
      | zero => exact absurd HA.out (by simp [warrantorlaw07_ItvWidens.l0])
      | succ k1 =>
        have H := HA.out
        clear HA
        simp only [warrantorlaw07_ItvWidens.l0] at H
        by_cases c8 : x6_1 < (l1.length : Int)
        · rw [if_pos c8] at H
          have c8b0 : decide (x6_1 < (l1.length : Int)) = true := decide_eq_true c8
          clear c8
          by_cases c9 : 0 ≤ x6_1
          · rw [if_pos c9] at H
            have c9b0 : decide (0 ≤ x6_1) = true := decide_eq_true c9
            clear c9
            replace H := Option.bind_eq_some_iff.mp H
            obtain ⟨⟨t531, t532⟩, A100, H⟩ := H
            replace H : ((itv_Widen.f x528000_1 x528001_1 t531 t532).bind fun bt533 => ((itv_Leq.f x528000_1 x528001_1 bt533.1 bt533.2).bind fun t536 => (if t536 = true then ((itv_Leq.f ((rd_T23 l1 x6_1).f0) ((rd_T23 l1 x6_1).f1) bt533.1 bt533.2).bind fun t538 => (warrantorlaw07_ItvWidens.j1 k1 l1 x5_1 x6_1 (!t538) x528000_1 x528001_1 bt533.1 bt533.2)) else (warrantorlaw07_ItvWidens.j1 k1 l1 x5_1 x6_1 true x528000_1 x528001_1 bt533.1 bt533.2)))) = some r := H
            have A10 := Aside0.mk A100
            clear A100
            replace H := Option.bind_eq_some_iff.mp H
            obtain ⟨⟨t533, t534⟩, A110, H⟩ := H
            replace H : ((itv_Leq.f x528000_1 x528001_1 t533 t534).bind fun t536 => (if t536 = true then ((itv_Leq.f ((rd_T23 l1 x6_1).f0) ((rd_T23 l1 x6_1).f1) t533 t534).bind fun t538 => (warrantorlaw07_ItvWidens.j1 k1 l1 x5_1 x6_1 (!t538) x528000_1 x528001_1 t533 t534)) else (warrantorlaw07_ItvWidens.j1 k1 l1 x5_1 x6_1 true x528000_1 x528001_1 t533 t534))) = some r := H
            have A11 := Aside0.mk A110
            clear A110
            have HC12 := Aside0.mk H
            clear H
            try go_wp2
            have n0_ := Aside0.mk (blk_drew BK527.out)
            have n1_ := Aside0.mk (below_drew1 HB.out)
            clear BK527
            clear HB
            have BK527 := n0_
            have HB := n1_
            clear n0_ n1_
            have p530 : 0 ≤ (x6_1 : Int) := of_decide_eq_true (by first | (with_reducible assumption) | assumption)
            have q530 : x6_1 < (l1.length : Int) := of_decide_eq_true (by first | (with_reducible assumption) | assumption)
            obtain ⟨ad530, e530, hx530_0, hx530_1⟩ := at_T23 HR1.out x6_1 p530 q530
            have hw530_1 := hx530_1
            have hw530_0 := hx530_0
            cases e530
            first | (replace hx530_0 := (HB.out.cell (World.block_lt_of_cell? w _ hx530_0)).trans hx530_0) | skip
            first | (replace hx530_1 := (HB.out.cell (World.block_lt_of_cell? w _ hx530_1)).trans hx530_1) | skip
            replace p530 := eq_true p530
            replace q530 := eq_true q530
            refine start_ (n := 10) (S := fun w' => w'.cell? ⟨gb527, 0, none⟩ = some (.int .i64 x528000_1) ∧ w'.cell? ⟨gb527, 1, none⟩ = some (.int .i64 x528001_1) ∧ w'.cell? (ad530.add ((x6_1).toNat * 2)) = some (.int .i64 ((rd_T23 l1 x6_1).f0)) ∧ w'.cell? ⟨(ad530.add ((x6_1).toNat * 2)).block, (ad530.add ((x6_1).toNat * 2)).off + 1, none⟩ = some (.int .i64 ((rd_T23 l1 x6_1).f1))) (ds := []) #[false, false, false, false, false, false, false, false, false, false] (by kernel_rfl) rfl rfl ⟨(blk_cell BK527.out 0).trans rfl, (blk_cell BK527.out 1).trans rfl, ((HB.out.cell (World.block_lt_of_cell? w _ hw530_0)).trans hw530_0), ((HB.out.cell (World.block_lt_of_cell? w _ hw530_1)).trans hw530_1)⟩ (fun hHeld => ?_); refine with_tabW warrantorlaw07_ItvWidens.tab7 warrantorlaw07_ItvWidens.bits7 (fun HT_ HW_ => ?_)
            generalize wr.drew = w13 at BK527 HB hx530_0 hx530_1 hHeld ⊢
            refine pure_ (i := 2) (N := some 20) (v := ?_) (a' := ?_) #[false, false, true, false, false, false, false, false, false, false] rfl rfl (any_of HT_.out (by kernel_rfl)) (fun _ _ _ h => h) (Or.inl ⟨by rfl, ?_⟩) ?_ ?_
            rotate_left
            · intro w'
              go_simp
              with_reducible rfl
            rotate_left
            · exact AP_
            refine pure_ (i := 3) (N := some 21) (v := ?_) (a' := ?_) #[false, false, true, true, false, false, false, false, false, false] rfl rfl (any_of HT_.out (by kernel_rfl)) (fun _ _ _ h => h) (Or.inl ⟨by rfl, ?_⟩) ?_ ?_
            rotate_left
            · intro w'
              go_simp
              with_reducible rfl
            rotate_left
            · exact AP_
            refine pure_ (i := 4) (N := some 22) (v := ?_) (a' := ?_) #[false, false, true, true, true, false, false, false, false, false] rfl rfl (any_of HT_.out (by kernel_rfl)) (fun _ _ _ h => h) (Or.inl ⟨by rfl, ?_⟩) ?_ ?_
            rotate_left
            · intro w'
              go_simp
              with_reducible rfl
            rotate_left
            · exact AP_
            refine take_ (i := 0) (N := some 18) (v := ?_) (a' := ?_) #[true, false, true, true, true, false, false, false, false, false] rfl rfl (take_ofW HT_.out HW_.out (by kernel_rfl)) (fun _ _ _ h => h) (Or.inl ⟨by rfl, ?_⟩) hHeld ?_ ?_
            rotate_left
            · rintro w' ⟨s0, s1, s2, s3⟩
              go_simp
              with_reducible rfl
            rotate_left
            · exact AP_
            refine take_ (i := 1) (N := some 19) (v := ?_) (a' := ?_) #[true, true, true, true, true, false, false, false, false, false] rfl rfl (take_ofW HT_.out HW_.out (by kernel_rfl)) (fun _ _ _ h => h) (Or.inl ⟨by rfl, ?_⟩) hHeld ?_ ?_
            rotate_left
            · rintro w' ⟨s0, s1, s2, s3⟩
              go_simp
              with_reducible rfl
            rotate_left
            · exact AP_
            refine take_ (i := 5) (N := some 23) (v := ?_) (a' := ?_) #[true, true, true, true, true, true, false, false, false, false] rfl rfl (take_ofW HT_.out HW_.out (by kernel_rfl)) (fun _ _ _ h => h) (Or.inl ⟨by rfl, ?_⟩) hHeld ?_ ?_
            rotate_left
            · rintro w' ⟨s0, s1, s2, s3⟩
              go_simp
              with_reducible rfl
            rotate_left
            · exact AP_
            refine join_ (σ := Nat) 1 #[true, true, true, true, true, true, true, true, true, false] (fun s_ => [(24, .agg #[.int .i64 t531, .int .i64 t532]), (25, .agg #[.int .i64 t533, .int .i64 t534]), (7, .pointer (some ⟨s_, 0, none⟩))]) (fun s_ w' => (w'.cell? ⟨gb527, 0, none⟩ = some (.int .i64 x528000_1) ∧ w'.cell? ⟨gb527, 1, none⟩ = some (.int .i64 x528001_1) ∧ w'.cell? (ad530.add ((x6_1).toNat * 2)) = some (.int .i64 ((rd_T23 l1 x6_1).f0)) ∧ w'.cell? ⟨(ad530.add ((x6_1).toNat * 2)).block, (ad530.add ((x6_1).toNat * 2)).off + 1, none⟩ = some (.int .i64 ((rd_T23 l1 x6_1).f1))) ∧ (w'.heap[gb527]? = some (.cells #[.int .i64 x528000_1, .int .i64 x528001_1] 23 (0, 0))) ∧ (w'.heap[s_]? = some (.cells #[.int .i64 0, .int .i64 0] 23 (0, 0))) ∧ (w.heap.size ≤ s_) ∧ (w.heap.size ≤ s_) ∧ (gb527 ≠ s_) ∧ (s_ ≠ gb527) ∧ (Below w.heap.size w w')) ?_ ?_
            rotate_left
            · intro hCont
              refine two_ (i := 6) (j := 8) (Ni := some 24) (Nj := some 7) #[true, true, true, true, true, true, true, false, false, false] #[true, true, true, true, true, true, false, false, true, false] rfl rfl rfl rfl (two_of HT_.out (by kernel_rfl)) (by decide) (by decide) (fun K hK => ?_) (fun K hK => ?_)
              · skip
                refine goes_ Tryd.func19 (by kernel_rfl) rfl #[.agg #[.int .i64 x528000_1, .int .i64 x528001_1], .agg #[.int .i64 ((rd_T23 l1 x6_1).f0), .int .i64 ((rd_T23 l1 x6_1).f1)]] (by rfl) rfl rfl MP_ ?_
                with_reducible refine (itv_Join.calls x528000_1 x528001_1 ((rd_T23 l1 x6_1).f0) ((rd_T23 l1 x6_1).f1) t531 t532 _ A10.out).mono ?_
                rintro e w14 ⟨rfl, hb⟩
                refine ⟨_, rfl, ?_⟩
                have n0_ := Aside0.mk (blk_below (g := gb527) (o := .cells #[.int .i64 x528000_1, .int .i64 x528001_1] 23 (0, 0)) (bk_ BK527.out) hb)
                have n1_ := Aside0.mk (below_step HB_ hb)
                clear BK527
                clear HB
                have BK527 := n0_
                have HB := n1_
                clear n0_ n1_
                (try clear hb)
                (try clear hb2)
                (try clear hk)
                (try clear hi)
                refine hK.out _ _ ⟨(blk_cell BK527.out 0).trans rfl, (blk_cell BK527.out 1).trans rfl, ((HB.out.cell (World.block_lt_of_cell? w _ hw530_0)).trans hw530_0), ((HB.out.cell (World.block_lt_of_cell? w _ hw530_1)).trans hw530_1)⟩ (fun hHeld => ?_)
                clear hK K
                refine norm_ (a' := ?_) ?_ ?_
                rotate_left
                · show Act.put _ (some 24) _ = _
                  simp only [Act.put, List.setIfInBounds_toArray, List.set_cons_zero, List.set_cons_succ, i64_w, i32_w]
                  rfl
                refine two_ (i := 7) (j := 8) (Ni := some 25) (Nj := some 7) #[true, true, true, true, true, true, true, true, false, false] #[true, true, true, true, true, true, true, false, true, false] rfl rfl rfl rfl (two_of HT_.out (by kernel_rfl)) (by decide) (by decide) (fun K hK => ?_) (fun K hK => ?_)
                · skip
                  refine goes_ Tryd.func29 (by kernel_rfl) rfl #[.agg #[.int .i64 x528000_1, .int .i64 x528001_1], .agg #[.int .i64 t531, .int .i64 t532]] (by rfl) rfl rfl MP_ ?_
                  with_reducible refine (itv_Widen.calls x528000_1 x528001_1 t531 t532 t533 t534 _ A11.out).mono ?_
                  rintro e w15 ⟨rfl, hb⟩
                  refine ⟨_, rfl, ?_⟩
                  have n0_ := Aside0.mk (blk_below (g := gb527) (o := .cells #[.int .i64 x528000_1, .int .i64 x528001_1] 23 (0, 0)) (bk_ BK527.out) hb)
                  have n1_ := Aside0.mk (below_step HB_ hb)
                  clear BK527
                  clear HB
                  have BK527 := n0_
                  have HB := n1_
                  clear n0_ n1_
                  (try clear hb)
                  (try clear hb2)
                  (try clear hk)
                  (try clear hi)
                  refine hK.out _ _ ⟨(blk_cell BK527.out 0).trans rfl, (blk_cell BK527.out 1).trans rfl, ((HB.out.cell (World.block_lt_of_cell? w _ hw530_0)).trans hw530_0), ((HB.out.cell (World.block_lt_of_cell? w _ hw530_1)).trans hw530_1)⟩ (fun hHeld => ?_)
                  clear hK K
                  refine norm_ (a' := ?_) ?_ ?_
                  rotate_left
                  · show Act.put _ (some 25) _ = _
                    simp only [Act.put, List.setIfInBounds_toArray, List.set_cons_zero, List.set_cons_succ, i64_w, i32_w]
                    rfl
                  refine one_ (i := 8) (N := some 7) #[true, true, true, true, true, true, true, true, true, false] rfl rfl (one_of HT_.out (by kernel_rfl)) (by decide) (fun K hK => ?_)
                  refine box_step ?hg (N := 7) ?hd (cs := #[.int .i64 0, .int .i64 0]) (t := 23) ?hr ?_; (case hd => rfl); (case hg => rfl); (case hr => first | (go_simp; done) | (go_simp; rfl))
                  intro gb535 hg w16 hbox hb
                  have n0_ := Aside0.mk (blk_below (g := gb527) (o := .cells #[.int .i64 x528000_1, .int .i64 x528001_1] 23 (0, 0)) (bk_ BK527.out) hb)
                  have n1_ := Aside0.mk (below_step HB_ hb)
                  have n2_ := Aside0.mk (hbox)
                  have n3_ := Aside0.mk ((by rw [hg]; exact (below_size HB_) : w.heap.size ≤ gb535))
                  have n4_ := Aside0.mk ((by rw [hg]; exact (below_size HB_) : w.heap.size ≤ gb535))
                  have n5_ := Aside0.mk ((by rw [hg]; exact Nat.ne_of_lt (blk_lt (g := gb527) (o := .cells #[.int .i64 x528000_1, .int .i64 x528001_1] 23 (0, 0)) (bk_ BK527.out)) : gb527 ≠ gb535))
                  have n6_ := Aside0.mk ((by rw [hg]; exact Nat.ne_of_gt (blk_lt (g := gb527) (o := .cells #[.int .i64 x528000_1, .int .i64 x528001_1] 23 (0, 0)) (bk_ BK527.out)) : gb535 ≠ gb527))
                  clear BK527
                  clear HB
                  have BK527 := n0_
                  have HB := n1_
                  have BK535 := n2_
                  have GW535 := n3_
                  have GE535 := n4_
                  have NB527_535 := n5_
                  have NB535_527 := n6_
                  clear n0_ n1_ n2_ n3_ n4_ n5_ n6_
                  clear hb hbox hg
                  refine hK.out _ _ ⟨(blk_cell BK527.out 0).trans rfl, (blk_cell BK527.out 1).trans rfl, ((HB.out.cell (World.block_lt_of_cell? w _ hw530_0)).trans hw530_0), ((HB.out.cell (World.block_lt_of_cell? w _ hw530_1)).trans hw530_1)⟩ (fun hHeld => ?_)
                  clear hK K
                  refine norm_ (a' := ?_) ?_ ?_
                  rotate_left
                  · show Act.put _ (some 7) _ = _
                    simp only [Act.put, List.setIfInBounds_toArray, List.set_cons_zero, List.set_cons_succ, i64_w, i32_w]
                    rfl
                  exact norm_ (by simp only [putAll, Act.put, List.setIfInBounds_toArray, List.set_cons_zero, List.set_cons_succ]) (hCont (gb535) _ ⟨hHeld, (bk_ BK527.out), (bk_ BK535.out), GW535.out, GE535.out, NB527_535.out, NB535_527.out, HB_⟩)
                · skip
                  refine box_step ?hg (N := 7) ?hd (cs := #[.int .i64 0, .int .i64 0]) (t := 23) ?hr ?_; (case hd => rfl); (case hg => rfl); (case hr => first | (go_simp; done) | (go_simp; rfl))
                  intro gb535 hg w15 hbox hb
                  have n0_ := Aside0.mk (blk_below (g := gb527) (o := .cells #[.int .i64 x528000_1, .int .i64 x528001_1] 23 (0, 0)) (bk_ BK527.out) hb)
                  have n1_ := Aside0.mk (below_step HB_ hb)
                  have n2_ := Aside0.mk (hbox)
                  have n3_ := Aside0.mk ((by rw [hg]; exact (below_size HB_) : w.heap.size ≤ gb535))
                  have n4_ := Aside0.mk ((by rw [hg]; exact (below_size HB_) : w.heap.size ≤ gb535))
                  have n5_ := Aside0.mk ((by rw [hg]; exact Nat.ne_of_lt (blk_lt (g := gb527) (o := .cells #[.int .i64 x528000_1, .int .i64 x528001_1] 23 (0, 0)) (bk_ BK527.out)) : gb527 ≠ gb535))
                  have n6_ := Aside0.mk ((by rw [hg]; exact Nat.ne_of_gt (blk_lt (g := gb527) (o := .cells #[.int .i64 x528000_1, .int .i64 x528001_1] 23 (0, 0)) (bk_ BK527.out)) : gb535 ≠ gb527))
                  clear BK527
                  clear HB
                  have BK527 := n0_
                  have HB := n1_
                  have BK535 := n2_
                  have GW535 := n3_
                  have GE535 := n4_
                  have NB527_535 := n5_
                  have NB535_527 := n6_
                  clear n0_ n1_ n2_ n3_ n4_ n5_ n6_
                  clear hb hbox hg
                  refine hK.out _ _ ⟨(blk_cell BK527.out 0).trans rfl, (blk_cell BK527.out 1).trans rfl, ((HB.out.cell (World.block_lt_of_cell? w _ hw530_0)).trans hw530_0), ((HB.out.cell (World.block_lt_of_cell? w _ hw530_1)).trans hw530_1)⟩ (fun hHeld => ?_)
                  clear hK K
                  refine norm_ (a' := ?_) ?_ ?_
                  rotate_left
                  · show Act.put _ (some 7) _ = _
                    simp only [Act.put, List.setIfInBounds_toArray, List.set_cons_zero, List.set_cons_succ, i64_w, i32_w]
                    rfl
                  refine one_ (i := 7) (N := some 25) #[true, true, true, true, true, true, true, true, true, false] rfl rfl (one_of HT_.out (by kernel_rfl)) (by decide) (fun K hK => ?_)
                  refine goes_ Tryd.func29 (by kernel_rfl) rfl #[.agg #[.int .i64 x528000_1, .int .i64 x528001_1], .agg #[.int .i64 t531, .int .i64 t532]] (by rfl) rfl rfl MP_ ?_
                  with_reducible refine (itv_Widen.calls x528000_1 x528001_1 t531 t532 t533 t534 _ A11.out).mono ?_
                  rintro e w16 ⟨rfl, hb⟩
                  refine ⟨_, rfl, ?_⟩
                  have n0_ := Aside0.mk (blk_below (g := gb527) (o := .cells #[.int .i64 x528000_1, .int .i64 x528001_1] 23 (0, 0)) (bk_ BK527.out) hb)
                  have n1_ := Aside0.mk (blk_below (g := gb535) (o := .cells #[.int .i64 0, .int .i64 0] 23 (0, 0)) (bk_ BK535.out) hb)
                  have n2_ := Aside0.mk (below_step HB_ hb)
                  clear BK527
                  clear BK535
                  clear HB
                  have BK527 := n0_
                  have BK535 := n1_
                  have HB := n2_
                  clear n0_ n1_ n2_
                  (try clear hb)
                  (try clear hb2)
                  (try clear hk)
                  (try clear hi)
                  refine hK.out _ _ ⟨(blk_cell BK527.out 0).trans rfl, (blk_cell BK527.out 1).trans rfl, ((HB.out.cell (World.block_lt_of_cell? w _ hw530_0)).trans hw530_0), ((HB.out.cell (World.block_lt_of_cell? w _ hw530_1)).trans hw530_1)⟩ (fun hHeld => ?_)
                  clear hK K
                  refine norm_ (a' := ?_) ?_ ?_
                  rotate_left
                  · show Act.put _ (some 25) _ = _
                    simp only [Act.put, List.setIfInBounds_toArray, List.set_cons_zero, List.set_cons_succ, i64_w, i32_w]
                    rfl
                  exact norm_ (by simp only [putAll, Act.put, List.setIfInBounds_toArray, List.set_cons_zero, List.set_cons_succ]) (hCont (gb535) _ ⟨hHeld, (bk_ BK527.out), (bk_ BK535.out), GW535.out, GE535.out, NB527_535.out, NB535_527.out, HB_⟩)
              · skip
                refine box_step ?hg (N := 7) ?hd (cs := #[.int .i64 0, .int .i64 0]) (t := 23) ?hr ?_; (case hd => rfl); (case hg => rfl); (case hr => first | (go_simp; done) | (go_simp; rfl))
                intro gb535 hg w14 hbox hb
                have n0_ := Aside0.mk (blk_below (g := gb527) (o := .cells #[.int .i64 x528000_1, .int .i64 x528001_1] 23 (0, 0)) (bk_ BK527.out) hb)
                have n1_ := Aside0.mk (below_step HB_ hb)
                have n2_ := Aside0.mk (hbox)
                have n3_ := Aside0.mk ((by rw [hg]; exact (below_size HB_) : w.heap.size ≤ gb535))
                have n4_ := Aside0.mk ((by rw [hg]; exact (below_size HB_) : w.heap.size ≤ gb535))
                have n5_ := Aside0.mk ((by rw [hg]; exact Nat.ne_of_lt (blk_lt (g := gb527) (o := .cells #[.int .i64 x528000_1, .int .i64 x528001_1] 23 (0, 0)) (bk_ BK527.out)) : gb527 ≠ gb535))
                have n6_ := Aside0.mk ((by rw [hg]; exact Nat.ne_of_gt (blk_lt (g := gb527) (o := .cells #[.int .i64 x528000_1, .int .i64 x528001_1] 23 (0, 0)) (bk_ BK527.out)) : gb535 ≠ gb527))
                clear BK527
                clear HB
                have BK527 := n0_
                have HB := n1_
                have BK535 := n2_
                have GW535 := n3_
                have GE535 := n4_
                have NB527_535 := n5_
                have NB535_527 := n6_
                clear n0_ n1_ n2_ n3_ n4_ n5_ n6_
                clear hb hbox hg
                refine hK.out _ _ ⟨(blk_cell BK527.out 0).trans rfl, (blk_cell BK527.out 1).trans rfl, ((HB.out.cell (World.block_lt_of_cell? w _ hw530_0)).trans hw530_0), ((HB.out.cell (World.block_lt_of_cell? w _ hw530_1)).trans hw530_1)⟩ (fun hHeld => ?_)
                clear hK K
                refine norm_ (a' := ?_) ?_ ?_
                rotate_left
                · show Act.put _ (some 7) _ = _
                  simp only [Act.put, List.setIfInBounds_toArray, List.set_cons_zero, List.set_cons_succ, i64_w, i32_w]
                  rfl
                refine one_ (i := 6) (N := some 24) #[true, true, true, true, true, true, true, false, true, false] rfl rfl (one_of HT_.out (by kernel_rfl)) (by decide) (fun K hK => ?_)
                refine goes_ Tryd.func19 (by kernel_rfl) rfl #[.agg #[.int .i64 x528000_1, .int .i64 x528001_1], .agg #[.int .i64 ((rd_T23 l1 x6_1).f0), .int .i64 ((rd_T23 l1 x6_1).f1)]] (by rfl) rfl rfl MP_ ?_
                with_reducible refine (itv_Join.calls x528000_1 x528001_1 ((rd_T23 l1 x6_1).f0) ((rd_T23 l1 x6_1).f1) t531 t532 _ A10.out).mono ?_
                rintro e w15 ⟨rfl, hb⟩
                refine ⟨_, rfl, ?_⟩
                have n0_ := Aside0.mk (blk_below (g := gb527) (o := .cells #[.int .i64 x528000_1, .int .i64 x528001_1] 23 (0, 0)) (bk_ BK527.out) hb)
                have n1_ := Aside0.mk (blk_below (g := gb535) (o := .cells #[.int .i64 0, .int .i64 0] 23 (0, 0)) (bk_ BK535.out) hb)
                have n2_ := Aside0.mk (below_step HB_ hb)
                clear BK527
                clear BK535
                clear HB
                have BK527 := n0_
                have BK535 := n1_
                have HB := n2_
                clear n0_ n1_ n2_
                (try clear hb)
                (try clear hb2)
                (try clear hk)
                (try clear hi)
                refine hK.out _ _ ⟨(blk_cell BK527.out 0).trans rfl, (blk_cell BK527.out 1).trans rfl, ((HB.out.cell (World.block_lt_of_cell? w _ hw530_0)).trans hw530_0), ((HB.out.cell (World.block_lt_of_cell? w _ hw530_1)).trans hw530_1)⟩ (fun hHeld => ?_)
                clear hK K
                refine norm_ (a' := ?_) ?_ ?_
                rotate_left
                · show Act.put _ (some 24) _ = _
                  simp only [Act.put, List.setIfInBounds_toArray, List.set_cons_zero, List.set_cons_succ, i64_w, i32_w]
                  rfl
                refine one_ (i := 7) (N := some 25) #[true, true, true, true, true, true, true, true, true, false] rfl rfl (one_of HT_.out (by kernel_rfl)) (by decide) (fun K hK => ?_)
                refine goes_ Tryd.func29 (by kernel_rfl) rfl #[.agg #[.int .i64 x528000_1, .int .i64 x528001_1], .agg #[.int .i64 t531, .int .i64 t532]] (by rfl) rfl rfl MP_ ?_
                with_reducible refine (itv_Widen.calls x528000_1 x528001_1 t531 t532 t533 t534 _ A11.out).mono ?_
                rintro e w16 ⟨rfl, hb⟩
                refine ⟨_, rfl, ?_⟩
                have n0_ := Aside0.mk (blk_below (g := gb527) (o := .cells #[.int .i64 x528000_1, .int .i64 x528001_1] 23 (0, 0)) (bk_ BK527.out) hb)
                have n1_ := Aside0.mk (blk_below (g := gb535) (o := .cells #[.int .i64 0, .int .i64 0] 23 (0, 0)) (bk_ BK535.out) hb)
                have n2_ := Aside0.mk (below_step HB_ hb)
                clear BK527
                clear BK535
                clear HB
                have BK527 := n0_
                have BK535 := n1_
                have HB := n2_
                clear n0_ n1_ n2_
                (try clear hb)
                (try clear hb2)
                (try clear hk)
                (try clear hi)
                refine hK.out _ _ ⟨(blk_cell BK527.out 0).trans rfl, (blk_cell BK527.out 1).trans rfl, ((HB.out.cell (World.block_lt_of_cell? w _ hw530_0)).trans hw530_0), ((HB.out.cell (World.block_lt_of_cell? w _ hw530_1)).trans hw530_1)⟩ (fun hHeld => ?_)
                clear hK K
                refine norm_ (a' := ?_) ?_ ?_
                rotate_left
                · show Act.put _ (some 25) _ = _
                  simp only [Act.put, List.setIfInBounds_toArray, List.set_cons_zero, List.set_cons_succ, i64_w, i32_w]
                  rfl
                exact norm_ (by simp only [putAll, Act.put, List.setIfInBounds_toArray, List.set_cons_zero, List.set_cons_succ]) (hCont (gb535) _ ⟨hHeld, (bk_ BK527.out), (bk_ BK535.out), GW535.out, GE535.out, NB527_535.out, NB535_527.out, HB_⟩)
            rintro gb535 w17 ⟨hS_, h0_, h1_, h2_, h3_, h4_, h5_, h6_⟩
            have n0_ : Aside0 (w17.heap[gb527]? = some (.cells #[.int .i64 x528000_1, .int .i64 x528001_1] 23 (0, 0))) := ⟨h0_⟩
            have n1_ : Aside0 (w17.heap[gb535]? = some (.cells #[.int .i64 0, .int .i64 0] 23 (0, 0))) := ⟨h1_⟩
            have n2_ : Aside0 (w.heap.size ≤ gb535) := ⟨h2_⟩
            have n3_ : Aside0 (w.heap.size ≤ gb535) := ⟨h3_⟩
            have n4_ : Aside0 (gb527 ≠ gb535) := ⟨h4_⟩
            have n5_ : Aside0 (gb535 ≠ gb527) := ⟨h5_⟩
            have n6_ : Aside0 (Below w.heap.size w w17) := ⟨h6_⟩
            clear BK527
            clear HB
            clear h0_ h1_ h2_ h3_ h4_ h5_ h6_
            have BK527 := n0_
            have BK535 := n1_
            have GW535 := n2_
            have GE535 := n3_
            have NB527_535 := n4_
            have NB535_527 := n5_
            have HB := n6_
            clear n0_ n1_ n2_ n3_ n4_ n5_ n6_
            have hHeld : w17.cell? ⟨gb527, 0, none⟩ = some (.int .i64 x528000_1) ∧ w17.cell? ⟨gb527, 1, none⟩ = some (.int .i64 x528001_1) ∧ w17.cell? (ad530.add ((x6_1).toNat * 2)) = some (.int .i64 ((rd_T23 l1 x6_1).f0)) ∧ w17.cell? ⟨(ad530.add ((x6_1).toNat * 2)).block, (ad530.add ((x6_1).toNat * 2)).off + 1, none⟩ = some (.int .i64 ((rd_T23 l1 x6_1).f1)) := hS_
            refine norm_ (a' := ?_) ?_ ?_
            rotate_left
            · simp only [putAll, Act.put, List.setIfInBounds_toArray, List.set_cons_zero, List.set_cons_succ]
              rfl
            refine one_ (i := 9) (N := none) #[true, true, true, true, true, true, true, true, true, true] rfl rfl (one_of HT_.out (by kernel_rfl)) (by decide) (fun K hK => ?_)
            have hs18 : w17.cell? ⟨gb535, 0, none⟩ = some (.int .i64 0) := (blk_cell BK535.out 0).trans rfl
            have hfs18 := blk_frozen BK535.out 0
            have hns18_0 := NB527_535.out
            have hms18_0 := NB535_527.out
            have hs19 : w17.cell? ⟨gb535, 1, none⟩ = some (.int .i64 0) := (blk_cell BK535.out 1).trans rfl
            have hfs19 := blk_frozen BK535.out 1
            have hns19_0 := NB527_535.out
            have hms19_0 := NB535_527.out
            refine skip_ (w1 := ?_) (by rfl) rfl ?_ ?_
            rotate_left
            · go_simp
              rfl
            refine hK.out _ _ ⟨((cell_far (p := ⟨gb535, _, none⟩) NB527_535.out _).trans (((cell_far (p := ⟨gb535, _, none⟩) NB527_535.out _).trans (hHeld.1)))), ((cell_far (p := ⟨gb535, _, none⟩) NB527_535.out _).trans (((cell_far (p := ⟨gb535, _, none⟩) NB527_535.out _).trans (hHeld.2.1)))), ((cell_far (p := ⟨gb535, _, none⟩) (by first | exact Nat.ne_of_lt (Nat.lt_of_lt_of_le (by have := World.block_lt_of_cell? _ _ hw530_0; first | rwa [add_block] at this | exact this) GW535.out) | (rw [add_block]; exact Nat.ne_of_lt (Nat.lt_of_lt_of_le (by have := World.block_lt_of_cell? _ _ hw530_0; first | rwa [add_block] at this | exact this) GW535.out)) | (show (Addr.add _ _).block ≠ _; rw [add_block]; exact Nat.ne_of_lt (Nat.lt_of_lt_of_le (by have := World.block_lt_of_cell? _ _ hw530_0; first | rwa [add_block] at this | exact this) GW535.out)) | (dsimp only; exact Nat.ne_of_lt (Nat.lt_of_lt_of_le (by have := World.block_lt_of_cell? _ _ hw530_0; first | rwa [add_block] at this | exact this) GW535.out))) _).trans (((cell_far (p := ⟨gb535, _, none⟩) (by first | exact Nat.ne_of_lt (Nat.lt_of_lt_of_le (by have := World.block_lt_of_cell? _ _ hw530_0; first | rwa [add_block] at this | exact this) GW535.out) | (rw [add_block]; exact Nat.ne_of_lt (Nat.lt_of_lt_of_le (by have := World.block_lt_of_cell? _ _ hw530_0; first | rwa [add_block] at this | exact this) GW535.out)) | (show (Addr.add _ _).block ≠ _; rw [add_block]; exact Nat.ne_of_lt (Nat.lt_of_lt_of_le (by have := World.block_lt_of_cell? _ _ hw530_0; first | rwa [add_block] at this | exact this) GW535.out)) | (dsimp only; exact Nat.ne_of_lt (Nat.lt_of_lt_of_le (by have := World.block_lt_of_cell? _ _ hw530_0; first | rwa [add_block] at this | exact this) GW535.out))) _).trans (hHeld.2.2.1)))), ((cell_far (p := ⟨gb535, _, none⟩) (by first | exact Nat.ne_of_lt (Nat.lt_of_lt_of_le (by have := World.block_lt_of_cell? _ _ hw530_1; first | rwa [add_block] at this | exact this) GW535.out) | (rw [add_block]; exact Nat.ne_of_lt (Nat.lt_of_lt_of_le (by have := World.block_lt_of_cell? _ _ hw530_1; first | rwa [add_block] at this | exact this) GW535.out)) | (show (Addr.add _ _).block ≠ _; rw [add_block]; exact Nat.ne_of_lt (Nat.lt_of_lt_of_le (by have := World.block_lt_of_cell? _ _ hw530_1; first | rwa [add_block] at this | exact this) GW535.out)) | (dsimp only; exact Nat.ne_of_lt (Nat.lt_of_lt_of_le (by have := World.block_lt_of_cell? _ _ hw530_1; first | rwa [add_block] at this | exact this) GW535.out))) _).trans (((cell_far (p := ⟨gb535, _, none⟩) (by first | exact Nat.ne_of_lt (Nat.lt_of_lt_of_le (by have := World.block_lt_of_cell? _ _ hw530_1; first | rwa [add_block] at this | exact this) GW535.out) | (rw [add_block]; exact Nat.ne_of_lt (Nat.lt_of_lt_of_le (by have := World.block_lt_of_cell? _ _ hw530_1; first | rwa [add_block] at this | exact this) GW535.out)) | (show (Addr.add _ _).block ≠ _; rw [add_block]; exact Nat.ne_of_lt (Nat.lt_of_lt_of_le (by have := World.block_lt_of_cell? _ _ hw530_1; first | rwa [add_block] at this | exact this) GW535.out)) | (dsimp only; exact Nat.ne_of_lt (Nat.lt_of_lt_of_le (by have := World.block_lt_of_cell? _ _ hw530_1; first | rwa [add_block] at this | exact this) GW535.out))) _).trans (hHeld.2.2.2))))⟩ (fun hHeld => ?_)
            clear hK K
            refine done_ (done_of HT_.out (by kernel_rfl)) ?_
            go_upto_region 8 with (fail)
            go_cut [38] (fun v38 wc => ∃ (kq : Nat) (x38_11 : Bool), v38 = .bool x38_11 ∧ Aside0 (warrantorlaw07_ItvWidens.j1 kq l1 x5_1 x6_1 x38_11 x528000_1 x528001_1 t533 t534 = some r) ∧ Aside0 (kq ≤ k1) ∧ Aside0 (wc.heap[gb527]? = some (.cells #[.int .i64 x528000_1, .int .i64 x528001_1] 23 (0, 0))) ∧ Aside0 (wc.heap[gb535]? = some (.cells #[.int .i64 t533, .int .i64 t534] 23 (0, 0))) ∧ Aside0 (Below w.heap.size w wc))
            case first =>
              have H := HC12.out
              clear HC12
              replace H := Option.bind_eq_some_iff.mp H
              obtain ⟨t536, A200, H⟩ := H
              replace H : (if t536 = true then ((itv_Leq.f ((rd_T23 l1 x6_1).f0) ((rd_T23 l1 x6_1).f1) t533 t534).bind fun t538 => (warrantorlaw07_ItvWidens.j1 k1 l1 x5_1 x6_1 (!t538) x528000_1 x528001_1 t533 t534)) else (warrantorlaw07_ItvWidens.j1 k1 l1 x5_1 x6_1 true x528000_1 x528001_1 t533 t534)) = some r := H
              have A20 := Aside0.mk A200
              clear A200
              by_cases c21 : t536 = true
              · subst c21
                have H1 : ((itv_Leq.f ((rd_T23 l1 x6_1).f0) ((rd_T23 l1 x6_1).f1) t533 t534).bind fun t538 => (warrantorlaw07_ItvWidens.j1 k1 l1 x5_1 x6_1 (!t538) x528000_1 x528001_1 t533 t534)) = some r := by rw [if_pos rfl] at H; exact H
                clear H
                have H := H1
                clear H1
                replace H := Option.bind_eq_some_iff.mp H
                obtain ⟨t538, A220, H⟩ := H
                replace H : (warrantorlaw07_ItvWidens.j1 k1 l1 x5_1 x6_1 (!t538) x528000_1 x528001_1 t533 t534) = some r := H
                have A22 := Aside0.mk A220
                clear A220
                have H' := Aside0.mk H
                clear H
                try go_wp2
                have n0_ : Aside0 (((w17.setCell ⟨gb535, 0, none⟩ (.int .i64 t533)).setCell ⟨gb535, 1, none⟩ (.int .i64 t534)).heap[gb527]? = some (.cells #[.int .i64 x528000_1, .int .i64 x528001_1] 23 (0, 0))) := ⟨by (with_reducible repeat (first | refine blk_drewN ?_ _ | refine blk_drew ?_ | refine blk_alloc ?_ _)); refine blk_far ?_ NB527_535.out _; (with_reducible repeat (first | refine blk_drewN ?_ _ | refine blk_drew ?_ | refine blk_alloc ?_ _)); refine blk_far ?_ NB527_535.out _; (with_reducible repeat (first | refine blk_drewN ?_ _ | refine blk_drew ?_ | refine blk_alloc ?_ _)); exact BK527.out⟩
                have n1_ : Aside0 (((w17.setCell ⟨gb535, 0, none⟩ (.int .i64 t533)).setCell ⟨gb535, 1, none⟩ (.int .i64 t534)).heap[gb535]? = some (.cells #[.int .i64 t533, .int .i64 t534] 23 (0, 0))) := ⟨by (with_reducible repeat (first | refine blk_drewN ?_ _ | refine blk_drew ?_ | refine blk_alloc ?_ _)); refine blk_put (cs := #[.int .i64 t533, .int .i64 0]) ?_ 1 _ rfl; (with_reducible repeat (first | refine blk_drewN ?_ _ | refine blk_drew ?_ | refine blk_alloc ?_ _)); refine blk_put (cs := #[.int .i64 0, .int .i64 0]) ?_ 0 _ rfl; (with_reducible repeat (first | refine blk_drewN ?_ _ | refine blk_drew ?_ | refine blk_alloc ?_ _)); exact BK535.out⟩
                have n2_ : Aside0 (Below w.heap.size w ((w17.setCell ⟨gb535, 0, none⟩ (.int .i64 t533)).setCell ⟨gb535, 1, none⟩ (.int .i64 t534))) := ⟨by repeat (first | (with_reducible first | exact HB.out | apply below_alloc | apply pw_below_drewN | apply below_drew1 | refine below_set ?_ GE527.out | refine below_set ?_ GE535.out) | exact HB.out)⟩
                (try clear BK527)
                (try clear BK535)
                (try clear HB)
                generalize ((w17.setCell ⟨gb535, 0, none⟩ (.int .i64 t533)).setCell ⟨gb535, 1, none⟩ (.int .i64 t534)) = w23 at n0_ n1_ n2_ ⊢
                have BK527 := n0_
                have BK535 := n1_
                have HB := n2_
                clear n0_ n1_ n2_
                first | (obtain ⟨w23, hq_⟩ : ∃ x, x = w23.drewN nd := ⟨_, rfl⟩; rw [← hq_]; have q0_ := Aside0.mk (blk_drewN BK527.out nd); rw [← hq_] at q0_; have q1_ := Aside0.mk (blk_drewN BK535.out nd); rw [← hq_] at q1_; have q2_ := Aside0.mk (pw_below_drewN HB.out nd); rw [← hq_] at q2_; clear BK527; clear BK535; clear HB; have BK527 := q0_; have BK535 := q1_; have HB := q2_; clear hq_ q0_ q1_ q2_) | skip
                have n0_ := Aside0.mk (blk_drew BK527.out)
                have n1_ := Aside0.mk (blk_drew BK535.out)
                have n2_ := Aside0.mk (below_drew1 HB.out)
                clear BK527
                clear BK535
                clear HB
                have BK527 := n0_
                have BK535 := n1_
                have HB := n2_
                clear n0_ n1_ n2_
                have p537 : 0 ≤ (x6_1 : Int) := of_decide_eq_true (by first | (with_reducible assumption) | assumption)
                have q537 : x6_1 < (l1.length : Int) := of_decide_eq_true (by first | (with_reducible assumption) | assumption)
                obtain ⟨ad537, e537, hx537_0, hx537_1⟩ := at_T23 HR1.out x6_1 p537 q537
                have hw537_1 := hx537_1
                have hw537_0 := hx537_0
                obtain rfl : ad530 = ad537 := (by injection e537)
                first | (replace hx537_0 := (HB.out.cell (World.block_lt_of_cell? w _ hx537_0)).trans hx537_0) | skip
                first | (replace hx537_1 := (HB.out.cell (World.block_lt_of_cell? w _ hx537_1)).trans hx537_1) | skip
                replace p537 := eq_true p537
                replace q537 := eq_true q537
                refine start_ (n := 13) (S := fun w' => w'.cell? ⟨gb527, 0, none⟩ = some (.int .i64 x528000_1) ∧ w'.cell? ⟨gb527, 1, none⟩ = some (.int .i64 x528001_1) ∧ w'.cell? ⟨gb535, 0, none⟩ = some (.int .i64 t533) ∧ w'.cell? ⟨gb535, 1, none⟩ = some (.int .i64 t534) ∧ w'.cell? (ad530.add ((x6_1).toNat * 2)) = some (.int .i64 ((rd_T23 l1 x6_1).f0)) ∧ w'.cell? ⟨(ad530.add ((x6_1).toNat * 2)).block, (ad530.add ((x6_1).toNat * 2)).off + 1, none⟩ = some (.int .i64 ((rd_T23 l1 x6_1).f1))) (ds := []) #[false, false, false, false, false, false, false, false, false, false, false, false, false] (by kernel_rfl) rfl rfl ⟨(blk_cell BK527.out 0).trans rfl, (blk_cell BK527.out 1).trans rfl, (blk_cell BK535.out 0).trans rfl, (blk_cell BK535.out 1).trans rfl, ((HB.out.cell (World.block_lt_of_cell? w _ hw537_0)).trans hw537_0), ((HB.out.cell (World.block_lt_of_cell? w _ hw537_1)).trans hw537_1)⟩ (fun hHeld => ?_); refine with_tabW warrantorlaw07_ItvWidens.tab8 warrantorlaw07_ItvWidens.bits8 (fun HT_ HW_ => ?_)
                generalize w23.drew = w24 at BK527 BK535 HB hx537_0 hx537_1 hHeld ⊢
                refine take_ (i := 0) (N := some 26) (v := ?_) (a' := ?_) #[true, false, false, false, false, false, false, false, false, false, false, false, false] rfl rfl (take_ofW HT_.out HW_.out (by kernel_rfl)) (fun _ _ _ h => h) (Or.inl ⟨by rfl, ?_⟩) hHeld ?_ ?_
                rotate_left
                · rintro w' ⟨s0, s1, s2, s3, s4, s5⟩
                  go_simp
                  with_reducible rfl
                rotate_left
                · exact AP_
                refine take_ (i := 1) (N := some 27) (v := ?_) (a' := ?_) #[true, true, false, false, false, false, false, false, false, false, false, false, false] rfl rfl (take_ofW HT_.out HW_.out (by kernel_rfl)) (fun _ _ _ h => h) (Or.inl ⟨by rfl, ?_⟩) hHeld ?_ ?_
                rotate_left
                · rintro w' ⟨s0, s1, s2, s3, s4, s5⟩
                  go_simp
                  with_reducible rfl
                rotate_left
                · exact AP_
                refine one_ (i := 2) (N := some 28) #[true, true, true, false, false, false, false, false, false, false, false, false, false] rfl rfl (one_of HT_.out (by kernel_rfl)) (by decide) (fun K hK => ?_)
                refine goes_ Tryd.func16 (by kernel_rfl) rfl #[.agg #[.int .i64 x528000_1, .int .i64 x528001_1], .agg #[.int .i64 t533, .int .i64 t534]] (by rfl) rfl rfl MP_ ?_
                with_reducible refine (itv_Leq.calls x528000_1 x528001_1 t533 t534 true _ A20.out).mono ?_
                rintro e w25 ⟨rfl, hb⟩
                refine ⟨_, rfl, ?_⟩
                have n0_ := Aside0.mk (blk_below (g := gb527) (o := .cells #[.int .i64 x528000_1, .int .i64 x528001_1] 23 (0, 0)) (bk_ BK527.out) hb)
                have n1_ := Aside0.mk (blk_below (g := gb535) (o := .cells #[.int .i64 t533, .int .i64 t534] 23 (0, 0)) (bk_ BK535.out) hb)
                have n2_ := Aside0.mk (below_step HB_ hb)
                clear BK527
                clear BK535
                clear HB
                have BK527 := n0_
                have BK535 := n1_
                have HB := n2_
                clear n0_ n1_ n2_
                (try clear hb)
                (try clear hb2)
                (try clear hk)
                (try clear hi)
                refine hK.out _ _ ⟨(blk_cell BK527.out 0).trans rfl, (blk_cell BK527.out 1).trans rfl, (blk_cell BK535.out 0).trans rfl, (blk_cell BK535.out 1).trans rfl, ((HB.out.cell (World.block_lt_of_cell? w _ hw537_0)).trans hw537_0), ((HB.out.cell (World.block_lt_of_cell? w _ hw537_1)).trans hw537_1)⟩ (fun hHeld => ?_)
                clear hK K
                refine norm_ (a' := ?_) ?_ ?_
                rotate_left
                · show Act.put _ (some 28) _ = _
                  simp only [Act.put, List.setIfInBounds_toArray, List.set_cons_zero, List.set_cons_succ, i64_w, i32_w]
                  rfl
                refine pure_ (i := 3) (N := some 29) (v := ?_) (a' := ?_) #[true, true, true, true, false, false, false, false, false, false, false, false, false] rfl rfl (any_of HT_.out (by kernel_rfl)) (fun _ _ _ h => h) (Or.inl ⟨by rfl, ?_⟩) ?_ ?_
                rotate_left
                · intro w'
                  go_simp
                  with_reducible rfl
                rotate_left
                · exact AP_
                refine pure_ (i := 4) (N := some 30) (v := ?_) (a' := ?_) #[true, true, true, true, true, false, false, false, false, false, false, false, false] rfl rfl (any_of HT_.out (by kernel_rfl)) (fun _ _ _ h => h) (Or.inl ⟨by rfl, ?_⟩) ?_ ?_
                rotate_left
                · intro w'
                  go_simp
                  with_reducible rfl
                rotate_left
                · exact AP_
                refine pure_ (i := 5) (N := some 31) (v := ?_) (a' := ?_) #[true, true, true, true, true, true, false, false, false, false, false, false, false] rfl rfl (any_of HT_.out (by kernel_rfl)) (fun _ _ _ h => h) (Or.inl ⟨by rfl, ?_⟩) ?_ ?_
                rotate_left
                · intro w'
                  go_simp
                  with_reducible rfl
                rotate_left
                · exact AP_
                refine pure_ (i := 6) (N := some 32) (v := ?_) (a' := ?_) #[true, true, true, true, true, true, true, false, false, false, false, false, false] rfl rfl (any_of HT_.out (by kernel_rfl)) (fun _ _ _ h => h) (Or.inl ⟨by rfl, ?_⟩) ?_ ?_
                rotate_left
                · intro w'
                  go_simp
                  with_reducible rfl
                rotate_left
                · exact AP_
                refine pure_ (i := 7) (N := some 33) (v := ?_) (a' := ?_) #[true, true, true, true, true, true, true, true, false, false, false, false, false] rfl rfl (any_of HT_.out (by kernel_rfl)) (fun _ _ _ h => h) (Or.inl ⟨by rfl, ?_⟩) ?_ ?_
                rotate_left
                · intro w'
                  go_simp
                  with_reducible rfl
                rotate_left
                · exact AP_
                refine take_ (i := 8) (N := some 34) (v := ?_) (a' := ?_) #[true, true, true, true, true, true, true, true, true, false, false, false, false] rfl rfl (take_ofW HT_.out HW_.out (by kernel_rfl)) (fun _ _ _ h => h) (Or.inl ⟨by rfl, ?_⟩) hHeld ?_ ?_
                rotate_left
                · rintro w' ⟨s0, s1, s2, s3, s4, s5⟩
                  go_simp
                  with_reducible rfl
                rotate_left
                · exact AP_
                refine take_ (i := 9) (N := some 35) (v := ?_) (a' := ?_) #[true, true, true, true, true, true, true, true, true, true, false, false, false] rfl rfl (take_ofW HT_.out HW_.out (by kernel_rfl)) (fun _ _ _ h => h) (Or.inl ⟨by rfl, ?_⟩) hHeld ?_ ?_
                rotate_left
                · rintro w' ⟨s0, s1, s2, s3, s4, s5⟩
                  go_simp
                  with_reducible rfl
                rotate_left
                · exact AP_
                refine one_ (i := 10) (N := some 36) #[true, true, true, true, true, true, true, true, true, true, true, false, false] rfl rfl (one_of HT_.out (by kernel_rfl)) (by decide) (fun K hK => ?_)
                refine goes_ Tryd.func16 (by kernel_rfl) rfl #[.agg #[.int .i64 ((rd_T23 l1 x6_1).f0), .int .i64 ((rd_T23 l1 x6_1).f1)], .agg #[.int .i64 t533, .int .i64 t534]] (by rfl) rfl rfl MP_ ?_
                with_reducible refine (itv_Leq.calls ((rd_T23 l1 x6_1).f0) ((rd_T23 l1 x6_1).f1) t533 t534 t538 _ A22.out).mono ?_
                rintro e w26 ⟨rfl, hb⟩
                refine ⟨_, rfl, ?_⟩
                have n0_ := Aside0.mk (blk_below (g := gb527) (o := .cells #[.int .i64 x528000_1, .int .i64 x528001_1] 23 (0, 0)) (bk_ BK527.out) hb)
                have n1_ := Aside0.mk (blk_below (g := gb535) (o := .cells #[.int .i64 t533, .int .i64 t534] 23 (0, 0)) (bk_ BK535.out) hb)
                have n2_ := Aside0.mk (below_step HB_ hb)
                clear BK527
                clear BK535
                clear HB
                have BK527 := n0_
                have BK535 := n1_
                have HB := n2_
                clear n0_ n1_ n2_
                (try clear hb)
                (try clear hb2)
                (try clear hk)
                (try clear hi)
                refine hK.out _ _ ⟨(blk_cell BK527.out 0).trans rfl, (blk_cell BK527.out 1).trans rfl, (blk_cell BK535.out 0).trans rfl, (blk_cell BK535.out 1).trans rfl, ((HB.out.cell (World.block_lt_of_cell? w _ hw537_0)).trans hw537_0), ((HB.out.cell (World.block_lt_of_cell? w _ hw537_1)).trans hw537_1)⟩ (fun hHeld => ?_)
                clear hK K
                refine norm_ (a' := ?_) ?_ ?_
                rotate_left
                · show Act.put _ (some 36) _ = _
                  simp only [Act.put, List.setIfInBounds_toArray, List.set_cons_zero, List.set_cons_succ, i64_w, i32_w]
                  rfl
                refine pure_ (i := 11) (N := some 37) (v := ?_) (a' := ?_) #[true, true, true, true, true, true, true, true, true, true, true, true, false] rfl rfl (any_of HT_.out (by kernel_rfl)) (fun _ _ _ h => h) (Or.inl ⟨by rfl, ?_⟩) ?_ ?_
                rotate_left
                · intro w'
                  go_simp
                  with_reducible rfl
                rotate_left
                · exact AP_
                refine pure_ (i := 12) (N := some 38) (v := ?_) (a' := ?_) #[true, true, true, true, true, true, true, true, true, true, true, true, true] rfl rfl (any_of HT_.out (by kernel_rfl)) (fun _ _ _ h => h) (Or.inl ⟨by rfl, ?_⟩) ?_ ?_
                rotate_left
                · intro w'
                  go_simp
                  with_reducible rfl
                rotate_left
                · exact AP_
                refine done_ (done_of HT_.out (by kernel_rfl)) ?_
                try go_wp2
                go_meet
                case rel => exact ⟨_, (!t538), (by first | rfl | (simp; done) | (simp [*]; done)), H', ⟨by have := HK1.out; first | omega | exact Nat.le_refl _⟩, ⟨by (with_reducible repeat (first | refine blk_drewN ?_ _ | refine blk_drew ?_ | refine blk_alloc ?_ _)); exact BK527.out⟩, ⟨by (with_reducible repeat (first | refine blk_drewN ?_ _ | refine blk_drew ?_ | refine blk_alloc ?_ _)); exact BK535.out⟩, ⟨by repeat (first | (with_reducible first | exact HB.out | apply below_alloc | apply pw_below_drewN | apply below_drew1 | refine below_set ?_ GE527.out | refine below_set ?_ GE535.out) | exact HB.out)⟩⟩
              · replace c21 := Bool.eq_false_iff.mpr c21
                subst c21
                have H1 : (warrantorlaw07_ItvWidens.j1 k1 l1 x5_1 x6_1 true x528000_1 x528001_1 t533 t534) = some r := by rw [if_neg (show ¬ (false = true) by decide)] at H; exact H
                clear H
                have H := H1
                clear H1
                have H' := Aside0.mk H
                clear H
                try go_wp2
                have n0_ : Aside0 (((w17.setCell ⟨gb535, 0, none⟩ (.int .i64 t533)).setCell ⟨gb535, 1, none⟩ (.int .i64 t534)).heap[gb527]? = some (.cells #[.int .i64 x528000_1, .int .i64 x528001_1] 23 (0, 0))) := ⟨by (with_reducible repeat (first | refine blk_drewN ?_ _ | refine blk_drew ?_ | refine blk_alloc ?_ _)); refine blk_far ?_ NB527_535.out _; (with_reducible repeat (first | refine blk_drewN ?_ _ | refine blk_drew ?_ | refine blk_alloc ?_ _)); refine blk_far ?_ NB527_535.out _; (with_reducible repeat (first | refine blk_drewN ?_ _ | refine blk_drew ?_ | refine blk_alloc ?_ _)); exact BK527.out⟩
                have n1_ : Aside0 (((w17.setCell ⟨gb535, 0, none⟩ (.int .i64 t533)).setCell ⟨gb535, 1, none⟩ (.int .i64 t534)).heap[gb535]? = some (.cells #[.int .i64 t533, .int .i64 t534] 23 (0, 0))) := ⟨by (with_reducible repeat (first | refine blk_drewN ?_ _ | refine blk_drew ?_ | refine blk_alloc ?_ _)); refine blk_put (cs := #[.int .i64 t533, .int .i64 0]) ?_ 1 _ rfl; (with_reducible repeat (first | refine blk_drewN ?_ _ | refine blk_drew ?_ | refine blk_alloc ?_ _)); refine blk_put (cs := #[.int .i64 0, .int .i64 0]) ?_ 0 _ rfl; (with_reducible repeat (first | refine blk_drewN ?_ _ | refine blk_drew ?_ | refine blk_alloc ?_ _)); exact BK535.out⟩
                have n2_ : Aside0 (Below w.heap.size w ((w17.setCell ⟨gb535, 0, none⟩ (.int .i64 t533)).setCell ⟨gb535, 1, none⟩ (.int .i64 t534))) := ⟨by repeat (first | (with_reducible first | exact HB.out | apply below_alloc | apply pw_below_drewN | apply below_drew1 | refine below_set ?_ GE527.out | refine below_set ?_ GE535.out) | exact HB.out)⟩
                (try clear BK527)
                (try clear BK535)
                (try clear HB)
                generalize ((w17.setCell ⟨gb535, 0, none⟩ (.int .i64 t533)).setCell ⟨gb535, 1, none⟩ (.int .i64 t534)) = w27 at n0_ n1_ n2_ ⊢
                have BK527 := n0_
                have BK535 := n1_
                have HB := n2_
                clear n0_ n1_ n2_
                first | (obtain ⟨w27, hq_⟩ : ∃ x, x = w27.drewN nd := ⟨_, rfl⟩; rw [← hq_]; have q0_ := Aside0.mk (blk_drewN BK527.out nd); rw [← hq_] at q0_; have q1_ := Aside0.mk (blk_drewN BK535.out nd); rw [← hq_] at q1_; have q2_ := Aside0.mk (pw_below_drewN HB.out nd); rw [← hq_] at q2_; clear BK527; clear BK535; clear HB; have BK527 := q0_; have BK535 := q1_; have HB := q2_; clear hq_ q0_ q1_ q2_) | skip
                have n0_ := Aside0.mk (blk_drew BK527.out)
                have n1_ := Aside0.mk (blk_drew BK535.out)
                have n2_ := Aside0.mk (below_drew1 HB.out)
                clear BK527
                clear BK535
                clear HB
                have BK527 := n0_
                have BK535 := n1_
                have HB := n2_
                clear n0_ n1_ n2_
                refine start_ (n := 13) (S := fun w' => w'.cell? ⟨gb527, 0, none⟩ = some (.int .i64 x528000_1) ∧ w'.cell? ⟨gb527, 1, none⟩ = some (.int .i64 x528001_1) ∧ w'.cell? ⟨gb535, 0, none⟩ = some (.int .i64 t533) ∧ w'.cell? ⟨gb535, 1, none⟩ = some (.int .i64 t534)) (ds := []) #[false, false, false, false, false, false, false, false, false, false, false, false, false] (by kernel_rfl) rfl rfl ⟨(blk_cell BK527.out 0).trans rfl, (blk_cell BK527.out 1).trans rfl, (blk_cell BK535.out 0).trans rfl, (blk_cell BK535.out 1).trans rfl⟩ (fun hHeld => ?_); refine with_tabW warrantorlaw07_ItvWidens.tab8 warrantorlaw07_ItvWidens.bits8 (fun HT_ HW_ => ?_)
                generalize w27.drew = w28 at BK527 BK535 HB hHeld ⊢
                refine take_ (i := 0) (N := some 26) (v := ?_) (a' := ?_) #[true, false, false, false, false, false, false, false, false, false, false, false, false] rfl rfl (take_ofW HT_.out HW_.out (by kernel_rfl)) (fun _ _ _ h => h) (Or.inl ⟨by rfl, ?_⟩) hHeld ?_ ?_
                rotate_left
                · rintro w' ⟨s0, s1, s2, s3⟩
                  go_simp
                  with_reducible rfl
                rotate_left
                · exact AP_
                refine take_ (i := 1) (N := some 27) (v := ?_) (a' := ?_) #[true, true, false, false, false, false, false, false, false, false, false, false, false] rfl rfl (take_ofW HT_.out HW_.out (by kernel_rfl)) (fun _ _ _ h => h) (Or.inl ⟨by rfl, ?_⟩) hHeld ?_ ?_
                rotate_left
                · rintro w' ⟨s0, s1, s2, s3⟩
                  go_simp
                  with_reducible rfl
                rotate_left
                · exact AP_
                refine one_ (i := 2) (N := some 28) #[true, true, true, false, false, false, false, false, false, false, false, false, false] rfl rfl (one_of HT_.out (by kernel_rfl)) (by decide) (fun K hK => ?_)
                refine goes_ Tryd.func16 (by kernel_rfl) rfl #[.agg #[.int .i64 x528000_1, .int .i64 x528001_1], .agg #[.int .i64 t533, .int .i64 t534]] (by rfl) rfl rfl MP_ ?_
                with_reducible refine (itv_Leq.calls x528000_1 x528001_1 t533 t534 false _ A20.out).mono ?_
                rintro e w29 ⟨rfl, hb⟩
                refine ⟨_, rfl, ?_⟩
                have n0_ := Aside0.mk (blk_below (g := gb527) (o := .cells #[.int .i64 x528000_1, .int .i64 x528001_1] 23 (0, 0)) (bk_ BK527.out) hb)
                have n1_ := Aside0.mk (blk_below (g := gb535) (o := .cells #[.int .i64 t533, .int .i64 t534] 23 (0, 0)) (bk_ BK535.out) hb)
                have n2_ := Aside0.mk (below_step HB_ hb)
                clear BK527
                clear BK535
                clear HB
                have BK527 := n0_
                have BK535 := n1_
                have HB := n2_
                clear n0_ n1_ n2_
                (try clear hb)
                (try clear hb2)
                (try clear hk)
                (try clear hi)
                refine hK.out _ _ ⟨(blk_cell BK527.out 0).trans rfl, (blk_cell BK527.out 1).trans rfl, (blk_cell BK535.out 0).trans rfl, (blk_cell BK535.out 1).trans rfl⟩ (fun hHeld => ?_)
                clear hK K
                refine norm_ (a' := ?_) ?_ ?_
                rotate_left
                · show Act.put _ (some 28) _ = _
                  simp only [Act.put, List.setIfInBounds_toArray, List.set_cons_zero, List.set_cons_succ, i64_w, i32_w]
                  rfl
                refine pure_ (i := 3) (N := some 29) (v := ?_) (a' := ?_) #[true, true, true, true, false, false, false, false, false, false, false, false, false] rfl rfl (any_of HT_.out (by kernel_rfl)) (fun _ _ _ h => h) (Or.inl ⟨by rfl, ?_⟩) ?_ ?_
                rotate_left
                · intro w'
                  go_simp
                  with_reducible rfl
                rotate_left
                · exact AP_
                refine pure_ (i := 4) (N := some 30) (v := ?_) (a' := ?_) #[true, true, true, true, true, false, false, false, false, false, false, false, false] rfl rfl (any_of HT_.out (by kernel_rfl)) (fun _ _ _ h => h) (Or.inl ⟨by rfl, ?_⟩) ?_ ?_
                rotate_left
                · intro w'
                  go_simp
                  with_reducible rfl
                rotate_left
                · exact AP_
                refine pure_ (i := 5) (N := some 31) (v := undef) (a' := ?_) #[true, true, true, true, true, true, false, false, false, false, false, false, false] rfl rfl (any_of HT_.out (by kernel_rfl)) (fun _ _ _ h => h) (Or.inr ⟨by rfl, rfl⟩) ?_ ?_
                rotate_left
                · exact AP_
                refine pure_ (i := 6) (N := some 32) (v := undef) (a' := ?_) #[true, true, true, true, true, true, true, false, false, false, false, false, false] rfl rfl (any_of HT_.out (by kernel_rfl)) (fun _ _ _ h => h) (Or.inr ⟨by rfl, rfl⟩) ?_ ?_
                rotate_left
                · exact AP_
                refine pure_ (i := 7) (N := some 33) (v := undef) (a' := ?_) #[true, true, true, true, true, true, true, true, false, false, false, false, false] rfl rfl (any_of HT_.out (by kernel_rfl)) (fun _ _ _ h => h) (Or.inr ⟨by rfl, rfl⟩) ?_ ?_
                rotate_left
                · exact AP_
                refine pure_ (i := 8) (N := some 34) (v := undef) (a' := ?_) #[true, true, true, true, true, true, true, true, true, false, false, false, false] rfl rfl (any_of HT_.out (by kernel_rfl)) (fun _ _ _ h => h) (Or.inr ⟨by rfl, rfl⟩) ?_ ?_
                rotate_left
                · exact AP_
                refine pure_ (i := 9) (N := some 35) (v := undef) (a' := ?_) #[true, true, true, true, true, true, true, true, true, true, false, false, false] rfl rfl (any_of HT_.out (by kernel_rfl)) (fun _ _ _ h => h) (Or.inr ⟨by rfl, rfl⟩) ?_ ?_
                rotate_left
                · exact AP_
                refine pure_ (i := 10) (N := some 36) (v := undef) (a' := ?_) #[true, true, true, true, true, true, true, true, true, true, true, false, false] rfl rfl (any_of HT_.out (by kernel_rfl)) (fun _ _ _ h => h) (Or.inr ⟨by rfl, rfl⟩) ?_ ?_
                rotate_left
                · exact AP_
                refine pure_ (i := 11) (N := some 37) (v := undef) (a' := ?_) #[true, true, true, true, true, true, true, true, true, true, true, true, false] rfl rfl (any_of HT_.out (by kernel_rfl)) (fun _ _ _ h => h) (Or.inr ⟨by rfl, rfl⟩) ?_ ?_
                rotate_left
                · exact AP_
                refine pure_ (i := 12) (N := some 38) (v := ?_) (a' := ?_) #[true, true, true, true, true, true, true, true, true, true, true, true, true] rfl rfl (any_of HT_.out (by kernel_rfl)) (fun _ _ _ h => h) (Or.inl ⟨by rfl, ?_⟩) ?_ ?_
                rotate_left
                · intro w'
                  go_simp
                  with_reducible rfl
                rotate_left
                · exact AP_
                refine done_ (done_of HT_.out (by kernel_rfl)) ?_
                try go_wp2
                go_meet
                case rel => exact ⟨_, (true), (by first | rfl | (simp; done) | (simp [*]; done)), H', ⟨by have := HK1.out; first | omega | exact Nat.le_refl _⟩, ⟨by (with_reducible repeat (first | refine blk_drewN ?_ _ | refine blk_drew ?_ | refine blk_alloc ?_ _)); exact BK527.out⟩, ⟨by (with_reducible repeat (first | refine blk_drewN ?_ _ | refine blk_drew ?_ | refine blk_alloc ?_ _)); exact BK535.out⟩, ⟨by repeat (first | (with_reducible first | exact HB.out | apply below_alloc | apply pw_below_drewN | apply below_drew1 | refine below_set ?_ GE527.out | refine below_set ?_ GE535.out) | exact HB.out)⟩⟩
            case rest =>
              clear HC12
              try clear c1
              try clear c2
              try clear p2
              try clear p5
              try clear q5
              try clear hx5
              try clear c16
              try clear c19
              try clear c21
              try clear c29
              try clear hx537_0
              try clear hx537_1
              try clear p537
              try clear q537
              obtain ⟨kq, x38_11, rfl, HA, HJ11, BK527, BK535, HB⟩ := hcut
              cases kq with
              | zero => exact absurd HA.out (by simp [warrantorlaw07_ItvWidens.j1])
              | succ kj11 =>
                have H := HA.out
                clear HA
                simp only [warrantorlaw07_ItvWidens.j1] at H
                by_cases c30 : x38_11 = true
                · subst c30
                  have H1 : (some false) = some r := by rw [if_pos rfl] at H; exact H
                  clear H
                  have H := H1
                  clear H1
                  obtain rfl := Option.some.inj H
                  go_wp2
                  go_ret
                  exact ⟨by first | rfl | (simp [errW_none, errW_some] <;> rfl) | (simp [*, errW_none, errW_some] <;> rfl), by repeat (first | (with_reducible first | exact HB.out | apply below_alloc | apply pw_below_drewN | apply below_drew1 | refine below_set ?_ GE527.out | refine below_set ?_ GE535.out) | exact HB.out)⟩
                · replace c30 := Bool.eq_false_iff.mpr c30
                  subst c30
                  have H1 : ((itv_Same.f x528000_1 x528001_1 t533 t534).bind fun t539 => (if t539 = true then (warrantorlaw07_ItvWidens.l0 kj11 l1 x5_1 (wrap64 (x6_1 + 1)) t533 t534) else (warrantorlaw07_ItvWidens.l0 kj11 l1 (wrap64 (x5_1 + 1)) (wrap64 (x6_1 + 1)) t533 t534))) = some r := by rw [if_neg (show ¬ (false = true) by decide)] at H; exact H
                  clear H
                  have H := H1
                  clear H1
                  replace H := Option.bind_eq_some_iff.mp H
                  obtain ⟨t539, A310, H⟩ := H
                  replace H : (if t539 = true then (warrantorlaw07_ItvWidens.l0 kj11 l1 x5_1 (wrap64 (x6_1 + 1)) t533 t534) else (warrantorlaw07_ItvWidens.l0 kj11 l1 (wrap64 (x5_1 + 1)) (wrap64 (x6_1 + 1)) t533 t534)) = some r := H
                  have A31 := Aside0.mk A310
                  clear A310
                  by_cases c32 : t539 = true
                  · subst c32
                    have H1 : (warrantorlaw07_ItvWidens.l0 kj11 l1 x5_1 (wrap64 (x6_1 + 1)) t533 t534) = some r := by rw [if_pos rfl] at H; exact H
                    clear H
                    have H := H1
                    clear H1
                    have H' := Aside0.mk H
                    clear H
                    have hnb33 := NB527_535.out
                    have hnc33 := NB535_527.out
                    have hcz34_0 : wc.cell? ⟨gb527, 0, none⟩ = some (.int .i64 x528000_1) := (blk_cell BK527.out 0).trans rfl
                    have hcz34_1 : wc.cell? ⟨gb527, 1, none⟩ = some (.int .i64 x528001_1) := (blk_cell BK527.out 1).trans rfl
                    have hfz34_0 := blk_frozen BK527.out 0
                    have hfz34_1 := blk_frozen BK527.out 1
                    have hcz35_0 : wc.cell? ⟨gb535, 0, none⟩ = some (.int .i64 t533) := (blk_cell BK535.out 0).trans rfl
                    have hcz35_1 : wc.cell? ⟨gb535, 1, none⟩ = some (.int .i64 t534) := (blk_cell BK535.out 1).trans rfl
                    have hfz35_0 := blk_frozen BK535.out 0
                    have hfz35_1 := blk_frozen BK535.out 1
                    go_wp2_with (first | ((with_reducible refine gate_callee (f := 18) rfl ?_); refine goesL_ (some 41) rfl rfl Tryd.func18 (by kernel_rfl) rfl #[.agg #[.int .i64 x528000_1, .int .i64 x528001_1], .agg #[.int .i64 t533, .int .i64 t534]] rfl MP_ ?_; (with_reducible refine (itv_Same.calls x528000_1 x528001_1 t533 t534 true _ A31.out).mono ?_); rintro e w36 ⟨rfl, hb⟩; refine ⟨_, rfl, ?_⟩; have n0_ := Aside0.mk (blk_below (g := gb527) (o := .cells #[.int .i64 x528000_1, .int .i64 x528001_1] 23 (0, 0)) (bk_ BK527.out) hb); have n1_ := Aside0.mk (blk_below (g := gb535) (o := .cells #[.int .i64 t533, .int .i64 t534] 23 (0, 0)) (bk_ BK535.out) hb); have n2_ := Aside0.mk (below_step HB_ hb); clear BK527; clear BK535; clear HB; have BK527 := n0_; have BK535 := n1_; have HB := n2_; clear n0_ n1_ n2_; (try clear hb); (try clear hb2); (try clear hk); (try clear hi); have hcz37_0 : w36.cell? ⟨gb535, 0, none⟩ = some (.int .i64 t533) := (blk_cell BK535.out 0).trans rfl; have hcz37_1 : w36.cell? ⟨gb535, 1, none⟩ = some (.int .i64 t534) := (blk_cell BK535.out 1).trans rfl; have hfz37_0 := blk_frozen BK535.out 0; have hfz37_1 := blk_frozen BK535.out 1; have hcz38_0 : w36.cell? ⟨gb527, 0, none⟩ = some (.int .i64 x528000_1) := (blk_cell BK527.out 0).trans rfl; have hcz38_1 : w36.cell? ⟨gb527, 1, none⟩ = some (.int .i64 x528001_1) := (blk_cell BK527.out 1).trans rfl; have hfz38_0 := blk_frozen BK527.out 0; have hfz38_1 := blk_frozen BK527.out 1))
                    go_roundg kj11
                    case measure => have := HK1.out; have := HJ11.out; omega
                    case rel => exact ⟨(x5_1), (wrap64 (x6_1 + 1)), (t533), (t534), (by first | rfl | (simp; done) | (simp [*]; done)), (by first | rfl | (simp; done) | (simp [*]; done)), H', ⟨by have := HK1.out; have := HJ11.out; omega⟩, ⟨by (with_reducible repeat (first | refine blk_drewN ?_ _ | refine blk_drew ?_ | refine blk_alloc ?_ _)); refine blk_put (cs := #[.int .i64 t533, .int .i64 x528001_1]) ?_ 1 _ rfl; (with_reducible repeat (first | refine blk_drewN ?_ _ | refine blk_drew ?_ | refine blk_alloc ?_ _)); refine blk_put (cs := #[.int .i64 x528000_1, .int .i64 x528001_1]) ?_ 0 _ rfl; (with_reducible repeat (first | refine blk_drewN ?_ _ | refine blk_drew ?_ | refine blk_alloc ?_ _)); exact BK527.out⟩, ⟨by repeat (first | (with_reducible first | exact HB.out | apply below_alloc | apply pw_below_drewN | apply below_drew1 | refine below_set ?_ GE527.out | refine below_set ?_ GE535.out) | exact HB.out)⟩⟩
                  · replace c32 := Bool.eq_false_iff.mpr c32
                    subst c32
                    have H1 : (warrantorlaw07_ItvWidens.l0 kj11 l1 (wrap64 (x5_1 + 1)) (wrap64 (x6_1 + 1)) t533 t534) = some r := by rw [if_neg (show ¬ (false = true) by decide)] at H; exact H
                    clear H
                    have H := H1
                    clear H1
                    have H' := Aside0.mk H
                    clear H
                    have hnb39 := NB527_535.out
                    have hnc39 := NB535_527.out
                    have hcz40_0 : wc.cell? ⟨gb527, 0, none⟩ = some (.int .i64 x528000_1) := (blk_cell BK527.out 0).trans rfl
                    have hcz40_1 : wc.cell? ⟨gb527, 1, none⟩ = some (.int .i64 x528001_1) := (blk_cell BK527.out 1).trans rfl
                    have hfz40_0 := blk_frozen BK527.out 0
                    have hfz40_1 := blk_frozen BK527.out 1
                    have hcz41_0 : wc.cell? ⟨gb535, 0, none⟩ = some (.int .i64 t533) := (blk_cell BK535.out 0).trans rfl
                    have hcz41_1 : wc.cell? ⟨gb535, 1, none⟩ = some (.int .i64 t534) := (blk_cell BK535.out 1).trans rfl
                    have hfz41_0 := blk_frozen BK535.out 0
                    have hfz41_1 := blk_frozen BK535.out 1
                    go_wp2_with (first | ((with_reducible refine gate_callee (f := 18) rfl ?_); refine goesL_ (some 41) rfl rfl Tryd.func18 (by kernel_rfl) rfl #[.agg #[.int .i64 x528000_1, .int .i64 x528001_1], .agg #[.int .i64 t533, .int .i64 t534]] rfl MP_ ?_; (with_reducible refine (itv_Same.calls x528000_1 x528001_1 t533 t534 false _ A31.out).mono ?_); rintro e w42 ⟨rfl, hb⟩; refine ⟨_, rfl, ?_⟩; have n0_ := Aside0.mk (blk_below (g := gb527) (o := .cells #[.int .i64 x528000_1, .int .i64 x528001_1] 23 (0, 0)) (bk_ BK527.out) hb); have n1_ := Aside0.mk (blk_below (g := gb535) (o := .cells #[.int .i64 t533, .int .i64 t534] 23 (0, 0)) (bk_ BK535.out) hb); have n2_ := Aside0.mk (below_step HB_ hb); clear BK527; clear BK535; clear HB; have BK527 := n0_; have BK535 := n1_; have HB := n2_; clear n0_ n1_ n2_; (try clear hb); (try clear hb2); (try clear hk); (try clear hi); have hcz43_0 : w42.cell? ⟨gb535, 0, none⟩ = some (.int .i64 t533) := (blk_cell BK535.out 0).trans rfl; have hcz43_1 : w42.cell? ⟨gb535, 1, none⟩ = some (.int .i64 t534) := (blk_cell BK535.out 1).trans rfl; have hfz43_0 := blk_frozen BK535.out 0; have hfz43_1 := blk_frozen BK535.out 1; have hcz44_0 : w42.cell? ⟨gb527, 0, none⟩ = some (.int .i64 x528000_1) := (blk_cell BK527.out 0).trans rfl; have hcz44_1 : w42.cell? ⟨gb527, 1, none⟩ = some (.int .i64 x528001_1) := (blk_cell BK527.out 1).trans rfl; have hfz44_0 := blk_frozen BK527.out 0; have hfz44_1 := blk_frozen BK527.out 1))
                    go_roundg kj11
                    case measure => have := HK1.out; have := HJ11.out; omega
                    case rel => exact ⟨(wrap64 (x5_1 + 1)), (wrap64 (x6_1 + 1)), (t533), (t534), (by first | rfl | (simp; done) | (simp [*]; done)), (by first | rfl | (simp; done) | (simp [*]; done)), H', ⟨by have := HK1.out; have := HJ11.out; omega⟩, ⟨by (with_reducible repeat (first | refine blk_drewN ?_ _ | refine blk_drew ?_ | refine blk_alloc ?_ _)); refine blk_put (cs := #[.int .i64 t533, .int .i64 x528001_1]) ?_ 1 _ rfl; (with_reducible repeat (first | refine blk_drewN ?_ _ | refine blk_drew ?_ | refine blk_alloc ?_ _)); refine blk_put (cs := #[.int .i64 x528000_1, .int .i64 x528001_1]) ?_ 0 _ rfl; (with_reducible repeat (first | refine blk_drewN ?_ _ | refine blk_drew ?_ | refine blk_alloc ?_ _)); exact BK527.out⟩, ⟨by repeat (first | (with_reducible first | exact HB.out | apply below_alloc | apply pw_below_drewN | apply below_drew1 | refine below_set ?_ GE527.out | refine below_set ?_ GE535.out) | exact HB.out)⟩⟩
          · rw [if_neg c9] at H
            exact absurd H (by simp)
        · rw [if_neg c8] at H
          have c8b0 : decide (x6_1 < (l1.length : Int)) = false := decide_eq_false c8
          clear c8
          replace H := Option.bind_eq_some_iff.mp H
          obtain ⟨t529, A450, H⟩ := H
          replace H : (if t529 = true then (some (decide (x5_1 ≤ 3))) else (some false)) = some r := H
          have A45 := Aside0.mk A450
          clear A450
          by_cases c46 : t529 = true
          · subst c46
            have H1 : (some (decide (x5_1 ≤ 3))) = some r := by rw [if_pos rfl] at H; exact H
            clear H
            have H := H1
            clear H1
            obtain rfl := Option.some.inj H
            go_wp2_with (first | ((with_reducible refine gate_callee (f := 8) rfl ?_); refine goesL_ (some 46) rfl rfl Tryd.func8 (by kernel_rfl) rfl #[] rfl MP_ ?_; (with_reducible refine (warrantorlaw07_lives.calls k1  true _ (tb_below HTB.out HB_) A45.out).mono ?_); rintro e w47 ⟨rfl, hb⟩; refine ⟨_, rfl, ?_⟩; have n0_ := Aside0.mk (blk_below (g := gb527) (o := .cells #[.int .i64 x528000_1, .int .i64 x528001_1] 23 (0, 0)) (bk_ BK527.out) hb); have n1_ := Aside0.mk (below_step HB_ hb); clear BK527; clear HB; have BK527 := n0_; have HB := n1_; clear n0_ n1_; (try clear hb); (try clear hb2); (try clear hk); (try clear hi)))
            go_ret
            exact ⟨by first | rfl | (simp [errW_none, errW_some] <;> rfl) | (simp [*, errW_none, errW_some] <;> rfl), by repeat (first | (with_reducible first | exact HB.out | apply below_alloc | apply pw_below_drewN | apply below_drew1 | refine below_set ?_ GE527.out) | exact HB.out)⟩
          · replace c46 := Bool.eq_false_iff.mpr c46
            subst c46
            have H1 : (some false) = some r := by rw [if_neg (show ¬ (false = true) by decide)] at H; exact H
            clear H
            have H := H1
            clear H1
            obtain rfl := Option.some.inj H
            go_wp2_with (first | ((with_reducible refine gate_callee (f := 8) rfl ?_); refine goesL_ (some 46) rfl rfl Tryd.func8 (by kernel_rfl) rfl #[] rfl MP_ ?_; (with_reducible refine (warrantorlaw07_lives.calls k1  false _ (tb_below HTB.out HB_) A45.out).mono ?_); rintro e w48 ⟨rfl, hb⟩; refine ⟨_, rfl, ?_⟩; have n0_ := Aside0.mk (blk_below (g := gb527) (o := .cells #[.int .i64 x528000_1, .int .i64 x528001_1] 23 (0, 0)) (bk_ BK527.out) hb); have n1_ := Aside0.mk (below_step HB_ hb); clear BK527; clear HB; have BK527 := n0_; have HB := n1_; clear n0_ n1_; (try clear hb); (try clear hb2); (try clear hk); (try clear hi)))
            go_ret
            exact ⟨by first | rfl | (simp [errW_none, errW_some] <;> rfl) | (simp [*, errW_none, errW_some] <;> rfl), by repeat (first | (with_reducible first | exact HB.out | apply below_alloc | apply pw_below_drewN | apply below_drew1 | refine below_set ?_ GE527.out) | exact HB.out)⟩

/-- THE ONE PURE STATEMENT of warrantorlaw07_ItvWidens: yours. -/
def warrantorlaw07_ItvWidens.Pure : Prop := ∀ (a0_0 : Int) (a0_1 : Int) (l1 : List (S23)), (Lit.int .i64 a0_0).wf = true → (Lit.int .i64 a0_1).wf = true → l1.length ≤ maxLen → l1.length * 16 ≤ 140737488351232 → (∀ x ∈ l1, (Lit.int .i64 x.f0).wf = true ∧ (Lit.int .i64 x.f1).wf = true) → ∃ k, warrantorlaw07_ItvWidens.f k a0_0 a0_1 l1 = some true
theorem warrantorlaw07_ItvWidens.walk (P : warrantorlaw07_ItvWidens.Pure) (a0_0 : Int) (a0_1 : Int) (a1 : Option Addr) (cap1 : Nat) (l1 : List (S23)) (w : World) (htab : TB w) (w0_0 : (Lit.int .i64 a0_0).wf = true) (w0_1 : (Lit.int .i64 a0_1).wf = true) (hr1 : Kd.C k23 w a1 l1.length l1) (hc1 : l1.length ≤ cap1) (hm1 : l1.length ≤ maxLen) (y1 : l1.length * 16 ≤ 140737488351232) (hw1 : ∀ x ∈ l1, (Lit.int .i64 x.f0).wf = true ∧ (Lit.int .i64 x.f1).wf = true) :
    Calls Tryd.prog 6 #[.agg #[.int .i64 a0_0, .int .i64 a0_1], .slice a1 l1.length cap1] w fun e w' => e = .returned (.bool true) ∧ Below w.heap.size w w' := by
  obtain ⟨k, h⟩ := P a0_0 a0_1 l1 w0_0 w0_1 hm1 y1 hw1
  refine (warrantorlaw07_ItvWidens.calls k a0_0 a0_1 _ _ l1 true w hr1 hc1 htab h).mono ?_
  rintro e w' ⟨rfl, hd⟩
  exact ⟨rfl, hd⟩

end Go.Proofs.YtkailfmehmgolaaDoor.R
