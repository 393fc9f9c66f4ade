-- WRITTEN BY this session's program wip/ext.py, in print.py's manner
import Derived.Test.YtgeemdpflcefkaaYx0
import Derived.Test.YtgeemdpflcefkaaYx30
import Derived.Test.YtgeemdpflcefkaaYx35
namespace Go.Proofs.Ytgeemdpflcefkaa.Y
open Go.RowKit Go.Proofs.YtgeemdpflcefkaaW.PrintWords Go.Proofs.YtgeemdpflcefkaaW.PrintLast Go.Proofs.YtgeemdpflcefkaaW.PrintMore
attribute [local go_sem] max2_int min2_int max_two min_two max_three min_three max_four min_four   -- for this text's walks alone
set_option linter.unusedVariables false
set_option linter.unusedSimpArgs false

/-! ### warrantorref14_Post: function 21 -/
def warrantorref14_Post.f (k : Nat) (a0_0 : Int) (l0_1 : List Int) (a1_0 : Int) (a1_1 : Int) (a1_2 : Int) (a1_3 : Int) (a1_4 : Int) : Option (Int × List Int) := if a1_0 = 2 then ((warrantorref09_Let.f k a0_0 l0_1 a1_1 a1_2 a1_3).bind fun bt539 => (some (bt539.1, bt539.2))) else (if a1_0 = 3 then ((warrantorref09_Forget.f k a0_0 l0_1 a1_1).bind fun bt543 => ((warrantorref09_Limit.f k bt543.1 bt543.2 a1_1 0 a1_4).bind fun bt547 => ((warrantorref09_Limit.f k bt547.1 bt547.2 0 a1_1 (wrap64 (-a1_3))).bind fun bt551 => (some (bt551.1, bt551.2))))) else (if a1_0 = 4 then ((warrantorref09_Limit.f k a0_0 l0_1 a1_1 a1_2 a1_3).bind fun bt555 => (some (bt555.1, bt555.2))) else (if a1_0 = 5 then ((warrantorref09_Limit.f k a0_0 l0_1 a1_1 a1_2 a1_3).bind fun bt559 => (some (bt559.1, bt559.2))) else (some (a0_0, l0_1)))))
theorem warrantorref14_Post.mono : ∀ a0 a1 a2 a3 a4 a5 a6 k, LeO (warrantorref14_Post.f k a0 a1 a2 a3 a4 a5 a6) (warrantorref14_Post.f (k + 1) a0 a1 a2 a3 a4 a5 a6) := by
  intro a0 a1 a2 a3 a4 a5 a6 k
  unfold warrantorref14_Post.f
  repeat' first
      | (with_reducible exact warrantorref09_Forget.mono _ _ _ _)
      | (with_reducible exact warrantorref09_Let.mono _ _ _ _ _ _)
      | (with_reducible exact warrantorref09_Limit.mono _ _ _ _ _ _)
      | (with_reducible exact LeO.refl _)
      | (with_reducible exact LeO.none _)
      | (with_reducible refine LeO.ite ?_ ?_)
      | (with_reducible refine LeO.bind ?_ (fun _ => ?_))
      | exact warrantorref09_Forget.mono _ _ _ _
      | exact warrantorref09_Let.mono _ _ _ _ _ _
      | exact warrantorref09_Limit.mono _ _ _ _ _ _
      | exact LeO.none _
      | refine LeO.ite ?_ ?_
      | refine LeO.bind ?_ (fun _ => ?_)
def warrantorref14_Post.T5 : Bool × List (List Nat × List Nat) := (true, [([], []), ([], []), ([1], [1]), ([0, 2], [0, 2]), ([], []), ([4], [4]), ([], []), ([6], [6]), ([3, 5, 7, 3], [3, 5, 7]), ([], []), ([9], [9]), ([], []), ([11], [11]), ([12], [12]), ([8, 10, 13, 8], [8, 10, 13]), ([14, 14, 0, 1, 2, 3, 4, 5, 6, 7, 8, 9, 10, 11, 12, 13, 14], [14])])
def warrantorref14_Post.B5 : List Nat := [0, 0, 2, 7, 0, 16, 0, 64, 255, 0, 512, 0, 2048, 6144, 16383, 32767]
theorem warrantorref14_Post.tab5 : rtab .any (opsOf Try.f21 5) = warrantorref14_Post.T5 := by kernel_rfl
theorem warrantorref14_Post.bits5 : waitsOk warrantorref14_Post.T5.2 warrantorref14_Post.B5 = true := by kernel_rfl
set_option maxHeartbeats 8000000 in
set_option maxRecDepth 100000 in
theorem warrantorref14_Post.calls (k : Nat) (a0_0 : Int) (P0_1_ : Nat → Prop) (A0_1 : Option Addr) (c0_1 : Nat) (l0_1 : List Int) (a1_0 : Int) (a1_1 : Int) (a1_2 : Int) (a1_3 : Int) (a1_4 : Int) (r1 : Int) (r2 : List Int) (w : World) (hs0_1 : Kd.V (Kd.int .i64) 3 w w.heap.size (fun k_ => P0_1_ k_) (.slice A0_1 l0_1.length c0_1) l0_1) (h : warrantorref14_Post.f k a0_0 l0_1 a1_0 a1_1 a1_2 a1_3 a1_4 = some (r1, r2)) :
    Calls Try.prog 21 #[.agg #[.int .i64 a0_0, .slice A0_1 l0_1.length c0_1], .agg #[.int .i64 a1_0, .int .i64 a1_1, .int .i64 a1_2, .int .i64 a1_3, .int .i64 a1_4]] w fun e w' => ∃ v1_ : Value, e = .returned (.agg #[.int .i64 r1, v1_]) ∧ Kd.V (Kd.int .i64) 3 w' w.heap.size (fun k_ => (P0_1_ k_ ∨ w.heap.size ≤ k_)) v1_ r2 ∧ Below w.heap.size w w' := by
  have hu24 := Try.underlying24
  have hu26 := Try.underlying26
  have HO0_1 := Aside0.mk (show Kd.V (Kd.int .i64) 3 w w.heap.size (fun k_ => (P0_1_ k_ ∨ w.heap.size ≤ k_)) (.slice A0_1 l0_1.length c0_1) l0_1 from Kd.V_mono hs0_1 (fun k_ hk => .inl hk))
  have HB := Aside0.mk (Below.refl w.heap.size w)
  have H : (if a1_0 = 2 then ((warrantorref09_Let.f k a0_0 l0_1 a1_1 a1_2 a1_3).bind fun bt539 => (some (bt539.1, bt539.2))) else (if a1_0 = 3 then ((warrantorref09_Forget.f k a0_0 l0_1 a1_1).bind fun bt543 => ((warrantorref09_Limit.f k bt543.1 bt543.2 a1_1 0 a1_4).bind fun bt547 => ((warrantorref09_Limit.f k bt547.1 bt547.2 0 a1_1 (wrap64 (-a1_3))).bind fun bt551 => (some (bt551.1, bt551.2))))) else (if a1_0 = 4 then ((warrantorref09_Limit.f k a0_0 l0_1 a1_1 a1_2 a1_3).bind fun bt555 => (some (bt555.1, bt555.2))) else (if a1_0 = 5 then ((warrantorref09_Limit.f k a0_0 l0_1 a1_1 a1_2 a1_3).bind fun bt559 => (some (bt559.1, bt559.2))) else (some (a0_0, l0_1)))))) = some (r1, r2) := h
  clear h
  by_cases c3 : a1_0 = 2
  · rw [if_pos c3] at H
    have c3b0 : (a1_0 == 2) = true := beq_iff_eq.mpr c3
    have c3b1 : (a1_0 != 2) = false := bne_eq_false_iff_eq.mpr c3
    clear c3
    replace H := Option.bind_eq_some_iff.mp H
    obtain ⟨⟨t539, t540⟩, A40, H⟩ := H
    replace H : (some (t539, t540)) = some (r1, r2) := H
    have A4 := Aside0.mk A40
    clear A40
    simp only [Option.some.injEq, Prod.mk.injEq] at H
    obtain ⟨rfl, rfl⟩ := H
    go_enter Try.func21, Try.ntmps21
    go_wp2_with (first | ((with_reducible refine gate_dst (N := 2) rfl ?_); refine bx_ (N := 2) (cs := #[.int .i64 a0_0, .slice A0_1 l0_1.length c0_1]) (t := 24) ?_; intro gb536 hg w5 hbox hb; have n_ := a_ (Aside0.mk (Kd.V_below (Kd.V_elderB (by (with_reducible repeat (first | apply Kd.V_alloc | apply Kd.V_drewN | apply Kd.V_drew)); exact HO0_1.out) gb536 (Nat.le_of_eq hg.symm)) hb)) (a_ (bs_ HB hb) (a_ (Aside0.mk hbox) (a_ (gs_ HB hg) (gs_ HB hg)))); clear HO0_1 HB; obtain ⟨HO0_1, HB, BK536, GW536, GE536⟩ := n_; clear hb hbox hg) | ((with_reducible refine gate_dst (N := 3) rfl ?_); refine bx_ (N := 3) (cs := #[.int .i64 a1_0, .int .i64 a1_1, .int .i64 a1_2, .int .i64 a1_3, .int .i64 a1_4]) (t := 26) ?_; intro gb537 hg w6 hbox hb; have n_ := a_ (Aside0.mk (Kd.V_below (Kd.V_elderB (by (with_reducible repeat (first | apply Kd.V_alloc | apply Kd.V_drewN | apply Kd.V_drew)); exact HO0_1.out) gb537 (Nat.le_of_eq hg.symm)) hb)) (a_ (bb_ BK536 hb) (a_ (bs_ HB hb) (a_ (Aside0.mk hbox) (a_ (gs_ HB hg) (a_ (gs_ HB hg) (a_ (nl_ BK536 hg) (ng_ BK536 hg))))))); clear HO0_1 BK536 HB; obtain ⟨HO0_1, BK536, HB, BK537, GW537, GE537, NB536_537, NB537_536⟩ := n_; clear hb hbox hg) | ((with_reducible refine gate_dst (N := 4) rfl ?_); refine bx_ (N := 4) (cs := #[.int .i64 0, .slice none 0 0]) (t := 24) ?_; intro gb538 hg w7 hbox hb; have n_ := a_ (Aside0.mk (Kd.V_below (Kd.V_elderB (by (with_reducible repeat (first | apply Kd.V_alloc | apply Kd.V_drewN | apply Kd.V_drew)); exact HO0_1.out) gb538 (Nat.le_of_eq hg.symm)) hb)) (a_ (bb_ BK536 hb) (a_ (bb_ BK537 hb) (a_ (bs_ HB hb) (a_ (Aside0.mk hbox) (a_ (gs_ HB hg) (a_ (gs_ HB hg) (a_ (nl_ BK536 hg) (a_ (ng_ BK536 hg) (a_ (nl_ BK537 hg) (ng_ BK537 hg)))))))))); clear HO0_1 BK536 BK537 HB; obtain ⟨HO0_1, BK536, BK537, HB, BK538, GW538, GE538, NB536_538, NB538_536, NB537_538, NB538_537⟩ := n_; clear hb hbox hg; have hnb8 := NB537_536.out; have hnc8 := NB536_537.out; have hnb9 := NB537_538.out; have hnc9 := NB538_537.out; have hcz10_0 : w7.cell? ⟨gb537, 0, none⟩ = some (.int .i64 a1_0) := (blk_cell BK537.out 0).trans rfl; have hcz10_1 : w7.cell? ⟨gb537, 1, none⟩ = some (.int .i64 a1_1) := (blk_cell BK537.out 1).trans rfl; have hcz10_2 : w7.cell? ⟨gb537, 2, none⟩ = some (.int .i64 a1_2) := (blk_cell BK537.out 2).trans rfl; have hcz10_3 : w7.cell? ⟨gb537, 3, none⟩ = some (.int .i64 a1_3) := (blk_cell BK537.out 3).trans rfl; have hcz10_4 : w7.cell? ⟨gb537, 4, none⟩ = some (.int .i64 a1_4) := (blk_cell BK537.out 4).trans rfl; have hfz10_0 := blk_frozen BK537.out 0; have hfz10_1 := blk_frozen BK537.out 1; have hfz10_2 := blk_frozen BK537.out 2; have hfz10_3 := blk_frozen BK537.out 3; have hfz10_4 := blk_frozen BK537.out 4; have hnb11 := NB536_538.out; have hnc11 := NB538_536.out; obtain ⟨hcz12_0, hcz12_1, hfz12_0, hfz12_1⟩ := cz2_ BK536) | ((with_reducible refine gate_callee (f := 33) rfl ?_); refine goesL_ (some 16) rfl rfl Try.func33 (by kernel_rfl) rfl #[.agg #[.int .i64 a0_0, .slice A0_1 l0_1.length c0_1], .int .i64 a1_1, .int .i64 a1_2, .int .i64 a1_3] rfl MP_ ?_; (with_reducible refine (warrantorref09_Let.calls k a0_0 (fun k_ => ((((P0_1_ k_ ∨ w.heap.size ≤ k_) ∧ k_ ≠ gb536) ∧ k_ ≠ gb537) ∧ k_ ≠ gb538)) _ _ l0_1 a1_1 a1_2 a1_3 t539 t540 _ ?side1 A4.out).mono ?_); (case side1 => exact HO0_1.out); rintro e w13 ⟨v541, rfl, ho0, hb⟩; refine ⟨_, rfl, ?_⟩; have n_ := a_ (Aside0.mk (Kd.V_below (by (with_reducible repeat (first | apply Kd.V_alloc | apply Kd.V_drewN | apply Kd.V_drew)); exact HO0_1.out) hb)) (a_ (Aside0.mk (Kd.V_lower (Kd.V_mono (ok' := fun k_ => (P0_1_ k_ ∨ w.heap.size ≤ k_) ∧ k_ ≠ gb536 ∧ k_ ≠ gb537 ∧ k_ ≠ gb538) ho0 (fun k_ hk_ => ⟨Or.elim hk_ (fun hs_ => hs_.1.1.1) (fun hn_ => (.inr (Nat.le_trans (below_size HB_) hn_))), Or.elim hk_ (fun hs_ => hs_.1.1.2) (fun hn_ => (Kd.freshB (g := gb536) (o := .cells #[.int .i64 a0_0, .slice A0_1 l0_1.length c0_1] 24 (0, 0)) (bk_ BK536.out) k_ hn_)), Or.elim hk_ (fun hs_ => hs_.1.2) (fun hn_ => (Kd.freshB (g := gb537) (o := .cells #[.int .i64 a1_0, .int .i64 a1_1, .int .i64 a1_2, .int .i64 a1_3, .int .i64 a1_4] 26 (0, 0)) (bk_ BK537.out) k_ hn_)), Or.elim hk_ (fun hs_ => hs_.2) (fun hn_ => (Kd.freshB (g := gb538) (o := .cells #[.int .i64 0, .slice none 0 0] 24 (0, 0)) (bk_ BK538.out) k_ hn_))⟩)) (below_size HB_))) (a_ (bb_ BK536 hb) (a_ (bb_ BK537 hb) (a_ (bb_ BK538 hb) (bs_ HB hb))))); clear HO0_1 BK536 BK537 BK538 HB; obtain ⟨HO0_1, HO542, BK536, BK537, BK538, HB⟩ := n_; (try clear hb); (try clear hb2); (try clear hk); (try clear hi); (try clear ho0); obtain ⟨hcz14_0, hcz14_1, hfz14_0, hfz14_1⟩ := cz2_ BK538; obtain ⟨Ao15, co15, eo15⟩ := Kd.V_slice HO542.out; subst eo15))
    refine bodyPost_ret (results_cell_row rfl _ _ gb538 24 #[.int .i64 t539, .slice Ao15 t540.length co15] (0, 0) _ rfl (bk2_ BK538.out) Try.underlying24 rfl (by kernel_rfl)) rfl ?_
    exact ⟨_, by first | rfl | (simp [errW_none, errW_some] <;> rfl) | (simp [*, errW_none, errW_some] <;> rfl), by (with_reducible repeat (first | apply Kd.V_alloc | apply Kd.V_drewN | apply Kd.V_drew)); exact Kd.V_mono (Kd.V_far (p := ⟨gb538, 1, none⟩) (Kd.V_far (p := ⟨gb538, 0, none⟩) (Kd.V_mono HO542.out (fun k_ hk => (⟨hk, hk.2.2.2⟩ : _ ∧ k_ ≠ gb538))) (fun _ hk => hk.2) (.int .i64 t539)) (fun _ hk => hk.2) (.slice Ao15 t540.length co15)) (fun _ hk => hk.1.1), HB_⟩
  rw [if_neg c3] at H
  have c3b0 : (a1_0 == 2) = false := beq_eq_false_iff_ne.mpr c3
  have c3b1 : (a1_0 != 2) = true := bne_iff_ne.mpr c3
  by_cases c16 : a1_0 = 3
  rotate_left
  · rw [if_neg c16] at H
    have c16b0 : (a1_0 == 3) = false := beq_eq_false_iff_ne.mpr c16
    have c16b1 : (a1_0 != 3) = true := bne_iff_ne.mpr c16
    by_cases c35 : a1_0 = 4
    · rw [if_pos c35] at H
      have c35b0 : (a1_0 == 4) = true := beq_iff_eq.mpr c35
      have c35b1 : (a1_0 != 4) = false := bne_eq_false_iff_eq.mpr c35
      clear c35
      replace H := Option.bind_eq_some_iff.mp H
      obtain ⟨⟨t555, t556⟩, A360, H⟩ := H
      replace H : (some (t555, t556)) = some (r1, r2) := H
      have A36 := Aside0.mk A360
      clear A360
      simp only [Option.some.injEq, Prod.mk.injEq] at H
      obtain ⟨rfl, rfl⟩ := H
      go_enter Try.func21, Try.ntmps21
      go_wp2_with (first | ((with_reducible refine gate_dst (N := 2) rfl ?_); refine bx_ (N := 2) (cs := #[.int .i64 a0_0, .slice A0_1 l0_1.length c0_1]) (t := 24) ?_; intro gb536 hg w37 hbox hb; have n_ := a_ (Aside0.mk (Kd.V_below (Kd.V_elderB (by (with_reducible repeat (first | apply Kd.V_alloc | apply Kd.V_drewN | apply Kd.V_drew)); exact HO0_1.out) gb536 (Nat.le_of_eq hg.symm)) hb)) (a_ (bs_ HB hb) (a_ (Aside0.mk hbox) (a_ (gs_ HB hg) (gs_ HB hg)))); clear HO0_1 HB; obtain ⟨HO0_1, HB, BK536, GW536, GE536⟩ := n_; clear hb hbox hg) | ((with_reducible refine gate_dst (N := 3) rfl ?_); refine bx_ (N := 3) (cs := #[.int .i64 a1_0, .int .i64 a1_1, .int .i64 a1_2, .int .i64 a1_3, .int .i64 a1_4]) (t := 26) ?_; intro gb537 hg w38 hbox hb; have n_ := a_ (Aside0.mk (Kd.V_below (Kd.V_elderB (by (with_reducible repeat (first | apply Kd.V_alloc | apply Kd.V_drewN | apply Kd.V_drew)); exact HO0_1.out) gb537 (Nat.le_of_eq hg.symm)) hb)) (a_ (bb_ BK536 hb) (a_ (bs_ HB hb) (a_ (Aside0.mk hbox) (a_ (gs_ HB hg) (a_ (gs_ HB hg) (a_ (nl_ BK536 hg) (ng_ BK536 hg))))))); clear HO0_1 BK536 HB; obtain ⟨HO0_1, BK536, HB, BK537, GW537, GE537, NB536_537, NB537_536⟩ := n_; clear hb hbox hg) | ((with_reducible refine gate_dst (N := 4) rfl ?_); refine bx_ (N := 4) (cs := #[.int .i64 0, .slice none 0 0]) (t := 24) ?_; intro gb538 hg w39 hbox hb; have n_ := a_ (Aside0.mk (Kd.V_below (Kd.V_elderB (by (with_reducible repeat (first | apply Kd.V_alloc | apply Kd.V_drewN | apply Kd.V_drew)); exact HO0_1.out) gb538 (Nat.le_of_eq hg.symm)) hb)) (a_ (bb_ BK536 hb) (a_ (bb_ BK537 hb) (a_ (bs_ HB hb) (a_ (Aside0.mk hbox) (a_ (gs_ HB hg) (a_ (gs_ HB hg) (a_ (nl_ BK536 hg) (a_ (ng_ BK536 hg) (a_ (nl_ BK537 hg) (ng_ BK537 hg)))))))))); clear HO0_1 BK536 BK537 HB; obtain ⟨HO0_1, BK536, BK537, HB, BK538, GW538, GE538, NB536_538, NB538_536, NB537_538, NB538_537⟩ := n_; clear hb hbox hg; have hnb40 := NB537_536.out; have hnc40 := NB536_537.out; have hnb41 := NB537_538.out; have hnc41 := NB538_537.out; have hcz42_0 : w39.cell? ⟨gb537, 0, none⟩ = some (.int .i64 a1_0) := (blk_cell BK537.out 0).trans rfl; have hcz42_1 : w39.cell? ⟨gb537, 1, none⟩ = some (.int .i64 a1_1) := (blk_cell BK537.out 1).trans rfl; have hcz42_2 : w39.cell? ⟨gb537, 2, none⟩ = some (.int .i64 a1_2) := (blk_cell BK537.out 2).trans rfl; have hcz42_3 : w39.cell? ⟨gb537, 3, none⟩ = some (.int .i64 a1_3) := (blk_cell BK537.out 3).trans rfl; have hcz42_4 : w39.cell? ⟨gb537, 4, none⟩ = some (.int .i64 a1_4) := (blk_cell BK537.out 4).trans rfl; have hfz42_0 := blk_frozen BK537.out 0; have hfz42_1 := blk_frozen BK537.out 1; have hfz42_2 := blk_frozen BK537.out 2; have hfz42_3 := blk_frozen BK537.out 3; have hfz42_4 := blk_frozen BK537.out 4; have hnb43 := NB536_538.out; have hnc43 := NB538_536.out; obtain ⟨hcz44_0, hcz44_1, hfz44_0, hfz44_1⟩ := cz2_ BK536) | ((with_reducible refine gate_callee (f := 32) rfl ?_); refine goesL_ (some 44) rfl rfl Try.func32 (by kernel_rfl) rfl #[.agg #[.int .i64 a0_0, .slice A0_1 l0_1.length c0_1], .int .i64 a1_1, .int .i64 a1_2, .int .i64 a1_3] rfl MP_ ?_; (with_reducible refine (warrantorref09_Limit.calls k a0_0 (fun k_ => ((((P0_1_ k_ ∨ w.heap.size ≤ k_) ∧ k_ ≠ gb536) ∧ k_ ≠ gb537) ∧ k_ ≠ gb538)) _ _ l0_1 a1_1 a1_2 a1_3 t555 t556 _ ?side1 A36.out).mono ?_); (case side1 => exact HO0_1.out); rintro e w45 ⟨v557, rfl, ho0, hb⟩; refine ⟨_, rfl, ?_⟩; have n_ := a_ (Aside0.mk (Kd.V_below (by (with_reducible repeat (first | apply Kd.V_alloc | apply Kd.V_drewN | apply Kd.V_drew)); exact HO0_1.out) hb)) (a_ (Aside0.mk (Kd.V_lower (Kd.V_mono (ok' := fun k_ => (P0_1_ k_ ∨ w.heap.size ≤ k_) ∧ k_ ≠ gb536 ∧ k_ ≠ gb537 ∧ k_ ≠ gb538) ho0 (fun k_ hk_ => ⟨Or.elim hk_ (fun hs_ => hs_.1.1.1) (fun hn_ => (.inr (Nat.le_trans (below_size HB_) hn_))), Or.elim hk_ (fun hs_ => hs_.1.1.2) (fun hn_ => (Kd.freshB (g := gb536) (o := .cells #[.int .i64 a0_0, .slice A0_1 l0_1.length c0_1] 24 (0, 0)) (bk_ BK536.out) k_ hn_)), Or.elim hk_ (fun hs_ => hs_.1.2) (fun hn_ => (Kd.freshB (g := gb537) (o := .cells #[.int .i64 a1_0, .int .i64 a1_1, .int .i64 a1_2, .int .i64 a1_3, .int .i64 a1_4] 26 (0, 0)) (bk_ BK537.out) k_ hn_)), Or.elim hk_ (fun hs_ => hs_.2) (fun hn_ => (Kd.freshB (g := gb538) (o := .cells #[.int .i64 0, .slice none 0 0] 24 (0, 0)) (bk_ BK538.out) k_ hn_))⟩)) (below_size HB_))) (a_ (bb_ BK536 hb) (a_ (bb_ BK537 hb) (a_ (bb_ BK538 hb) (bs_ HB hb))))); clear HO0_1 BK536 BK537 BK538 HB; obtain ⟨HO0_1, HO558, BK536, BK537, BK538, HB⟩ := n_; (try clear hb); (try clear hb2); (try clear hk); (try clear hi); (try clear ho0); obtain ⟨hcz46_0, hcz46_1, hfz46_0, hfz46_1⟩ := cz2_ BK538; obtain ⟨Ao47, co47, eo47⟩ := Kd.V_slice HO558.out; subst eo47))
      refine bodyPost_ret (results_cell_row rfl _ _ gb538 24 #[.int .i64 t555, .slice Ao47 t556.length co47] (0, 0) _ rfl (bk2_ BK538.out) Try.underlying24 rfl (by kernel_rfl)) rfl ?_
      exact ⟨_, by first | rfl | (simp [errW_none, errW_some] <;> rfl) | (simp [*, errW_none, errW_some] <;> rfl), by (with_reducible repeat (first | apply Kd.V_alloc | apply Kd.V_drewN | apply Kd.V_drew)); exact Kd.V_mono (Kd.V_far (p := ⟨gb538, 1, none⟩) (Kd.V_far (p := ⟨gb538, 0, none⟩) (Kd.V_mono HO558.out (fun k_ hk => (⟨hk, hk.2.2.2⟩ : _ ∧ k_ ≠ gb538))) (fun _ hk => hk.2) (.int .i64 t555)) (fun _ hk => hk.2) (.slice Ao47 t556.length co47)) (fun _ hk => hk.1.1), HB_⟩
    rw [if_neg c35] at H
    have c35b0 : (a1_0 == 4) = false := beq_eq_false_iff_ne.mpr c35
    have c35b1 : (a1_0 != 4) = true := bne_iff_ne.mpr c35
    by_cases c48 : a1_0 = 5
    rotate_left
    · rw [if_neg c48] at H
      have c48b0 : (a1_0 == 5) = false := beq_eq_false_iff_ne.mpr c48
      have c48b1 : (a1_0 != 5) = true := bne_iff_ne.mpr c48
      simp only [Option.some.injEq, Prod.mk.injEq] at H
      obtain ⟨rfl, rfl⟩ := H
      go_enter Try.func21, Try.ntmps21
      go_wp2_with (first | ((with_reducible refine gate_dst (N := 2) rfl ?_); refine bx_ (N := 2) (cs := #[.int .i64 a0_0, .slice A0_1 l0_1.length c0_1]) (t := 24) ?_; intro gb536 hg w61 hbox hb; have n_ := a_ (Aside0.mk (Kd.V_below (Kd.V_elderB (by (with_reducible repeat (first | apply Kd.V_alloc | apply Kd.V_drewN | apply Kd.V_drew)); exact HO0_1.out) gb536 (Nat.le_of_eq hg.symm)) hb)) (a_ (bs_ HB hb) (a_ (Aside0.mk hbox) (a_ (gs_ HB hg) (gs_ HB hg)))); clear HO0_1 HB; obtain ⟨HO0_1, HB, BK536, GW536, GE536⟩ := n_; clear hb hbox hg) | ((with_reducible refine gate_dst (N := 3) rfl ?_); refine bx_ (N := 3) (cs := #[.int .i64 a1_0, .int .i64 a1_1, .int .i64 a1_2, .int .i64 a1_3, .int .i64 a1_4]) (t := 26) ?_; intro gb537 hg w62 hbox hb; have n_ := a_ (Aside0.mk (Kd.V_below (Kd.V_elderB (by (with_reducible repeat (first | apply Kd.V_alloc | apply Kd.V_drewN | apply Kd.V_drew)); exact HO0_1.out) gb537 (Nat.le_of_eq hg.symm)) hb)) (a_ (bb_ BK536 hb) (a_ (bs_ HB hb) (a_ (Aside0.mk hbox) (a_ (gs_ HB hg) (a_ (gs_ HB hg) (a_ (nl_ BK536 hg) (ng_ BK536 hg))))))); clear HO0_1 BK536 HB; obtain ⟨HO0_1, BK536, HB, BK537, GW537, GE537, NB536_537, NB537_536⟩ := n_; clear hb hbox hg) | ((with_reducible refine gate_dst (N := 4) rfl ?_); refine bx_ (N := 4) (cs := #[.int .i64 0, .slice none 0 0]) (t := 24) ?_; intro gb538 hg w63 hbox hb; have n_ := a_ (Aside0.mk (Kd.V_below (Kd.V_elderB (by (with_reducible repeat (first | apply Kd.V_alloc | apply Kd.V_drewN | apply Kd.V_drew)); exact HO0_1.out) gb538 (Nat.le_of_eq hg.symm)) hb)) (a_ (bb_ BK536 hb) (a_ (bb_ BK537 hb) (a_ (bs_ HB hb) (a_ (Aside0.mk hbox) (a_ (gs_ HB hg) (a_ (gs_ HB hg) (a_ (nl_ BK536 hg) (a_ (ng_ BK536 hg) (a_ (nl_ BK537 hg) (ng_ BK537 hg)))))))))); clear HO0_1 BK536 BK537 HB; obtain ⟨HO0_1, BK536, BK537, HB, BK538, GW538, GE538, NB536_538, NB538_536, NB537_538, NB538_537⟩ := n_; clear hb hbox hg; have hnb64 := NB537_536.out; have hnc64 := NB536_537.out; have hnb65 := NB537_538.out; have hnc65 := NB538_537.out; have hcz66_0 : w63.cell? ⟨gb537, 0, none⟩ = some (.int .i64 a1_0) := (blk_cell BK537.out 0).trans rfl; have hcz66_1 : w63.cell? ⟨gb537, 1, none⟩ = some (.int .i64 a1_1) := (blk_cell BK537.out 1).trans rfl; have hcz66_2 : w63.cell? ⟨gb537, 2, none⟩ = some (.int .i64 a1_2) := (blk_cell BK537.out 2).trans rfl; have hcz66_3 : w63.cell? ⟨gb537, 3, none⟩ = some (.int .i64 a1_3) := (blk_cell BK537.out 3).trans rfl; have hcz66_4 : w63.cell? ⟨gb537, 4, none⟩ = some (.int .i64 a1_4) := (blk_cell BK537.out 4).trans rfl; have hfz66_0 := blk_frozen BK537.out 0; have hfz66_1 := blk_frozen BK537.out 1; have hfz66_2 := blk_frozen BK537.out 2; have hfz66_3 := blk_frozen BK537.out 3; have hfz66_4 := blk_frozen BK537.out 4; have hnb67 := NB536_538.out; have hnc67 := NB538_536.out; obtain ⟨hcz68_0, hcz68_1, hfz68_0, hfz68_1⟩ := cz2_ BK536; obtain ⟨hcz69_0, hcz69_1, hfz69_0, hfz69_1⟩ := cz2_ BK538))
      refine bodyPost_ret (results_cell_row rfl _ _ gb538 24 #[.int .i64 a0_0, .slice A0_1 l0_1.length c0_1] (0, 0) _ rfl (bk2_ BK538.out) Try.underlying24 rfl (by kernel_rfl)) rfl ?_
      exact ⟨_, by first | rfl | (simp [errW_none, errW_some] <;> rfl) | (simp [*, errW_none, errW_some] <;> rfl), by (with_reducible repeat (first | apply Kd.V_alloc | apply Kd.V_drewN | apply Kd.V_drew)); exact Kd.V_mono (Kd.V_far (p := ⟨gb538, 1, none⟩) (Kd.V_far (p := ⟨gb538, 0, none⟩) (Kd.V_mono HO0_1.out (fun k_ hk => (⟨hk, hk.2⟩ : _ ∧ k_ ≠ gb538))) (fun _ hk => hk.2) (.int .i64 a0_0)) (fun _ hk => hk.2) (.slice A0_1 l0_1.length c0_1)) (fun _ hk => hk.1.1.1.1), HB_⟩

    rw [if_pos c48] at H
    have c48b0 : (a1_0 == 5) = true := beq_iff_eq.mpr c48
    have c48b1 : (a1_0 != 5) = false := bne_eq_false_iff_eq.mpr c48
    clear c48
    replace H := Option.bind_eq_some_iff.mp H
    obtain ⟨⟨t559, t560⟩, A490, H⟩ := H
    replace H : (some (t559, t560)) = some (r1, r2) := H
    have A49 := Aside0.mk A490
    clear A490
    simp only [Option.some.injEq, Prod.mk.injEq] at H
    obtain ⟨rfl, rfl⟩ := H
    go_enter Try.func21, Try.ntmps21
    go_wp2_with (first | ((with_reducible refine gate_dst (N := 2) rfl ?_); refine bx_ (N := 2) (cs := #[.int .i64 a0_0, .slice A0_1 l0_1.length c0_1]) (t := 24) ?_; intro gb536 hg w50 hbox hb; have n_ := a_ (Aside0.mk (Kd.V_below (Kd.V_elderB (by (with_reducible repeat (first | apply Kd.V_alloc | apply Kd.V_drewN | apply Kd.V_drew)); exact HO0_1.out) gb536 (Nat.le_of_eq hg.symm)) hb)) (a_ (bs_ HB hb) (a_ (Aside0.mk hbox) (a_ (gs_ HB hg) (gs_ HB hg)))); clear HO0_1 HB; obtain ⟨HO0_1, HB, BK536, GW536, GE536⟩ := n_; clear hb hbox hg) | ((with_reducible refine gate_dst (N := 3) rfl ?_); refine bx_ (N := 3) (cs := #[.int .i64 a1_0, .int .i64 a1_1, .int .i64 a1_2, .int .i64 a1_3, .int .i64 a1_4]) (t := 26) ?_; intro gb537 hg w51 hbox hb; have n_ := a_ (Aside0.mk (Kd.V_below (Kd.V_elderB (by (with_reducible repeat (first | apply Kd.V_alloc | apply Kd.V_drewN | apply Kd.V_drew)); exact HO0_1.out) gb537 (Nat.le_of_eq hg.symm)) hb)) (a_ (bb_ BK536 hb) (a_ (bs_ HB hb) (a_ (Aside0.mk hbox) (a_ (gs_ HB hg) (a_ (gs_ HB hg) (a_ (nl_ BK536 hg) (ng_ BK536 hg))))))); clear HO0_1 BK536 HB; obtain ⟨HO0_1, BK536, HB, BK537, GW537, GE537, NB536_537, NB537_536⟩ := n_; clear hb hbox hg) | ((with_reducible refine gate_dst (N := 4) rfl ?_); refine bx_ (N := 4) (cs := #[.int .i64 0, .slice none 0 0]) (t := 24) ?_; intro gb538 hg w52 hbox hb; have n_ := a_ (Aside0.mk (Kd.V_below (Kd.V_elderB (by (with_reducible repeat (first | apply Kd.V_alloc | apply Kd.V_drewN | apply Kd.V_drew)); exact HO0_1.out) gb538 (Nat.le_of_eq hg.symm)) hb)) (a_ (bb_ BK536 hb) (a_ (bb_ BK537 hb) (a_ (bs_ HB hb) (a_ (Aside0.mk hbox) (a_ (gs_ HB hg) (a_ (gs_ HB hg) (a_ (nl_ BK536 hg) (a_ (ng_ BK536 hg) (a_ (nl_ BK537 hg) (ng_ BK537 hg)))))))))); clear HO0_1 BK536 BK537 HB; obtain ⟨HO0_1, BK536, BK537, HB, BK538, GW538, GE538, NB536_538, NB538_536, NB537_538, NB538_537⟩ := n_; clear hb hbox hg; have hnb53 := NB537_536.out; have hnc53 := NB536_537.out; have hnb54 := NB537_538.out; have hnc54 := NB538_537.out; have hcz55_0 : w52.cell? ⟨gb537, 0, none⟩ = some (.int .i64 a1_0) := (blk_cell BK537.out 0).trans rfl; have hcz55_1 : w52.cell? ⟨gb537, 1, none⟩ = some (.int .i64 a1_1) := (blk_cell BK537.out 1).trans rfl; have hcz55_2 : w52.cell? ⟨gb537, 2, none⟩ = some (.int .i64 a1_2) := (blk_cell BK537.out 2).trans rfl; have hcz55_3 : w52.cell? ⟨gb537, 3, none⟩ = some (.int .i64 a1_3) := (blk_cell BK537.out 3).trans rfl; have hcz55_4 : w52.cell? ⟨gb537, 4, none⟩ = some (.int .i64 a1_4) := (blk_cell BK537.out 4).trans rfl; have hfz55_0 := blk_frozen BK537.out 0; have hfz55_1 := blk_frozen BK537.out 1; have hfz55_2 := blk_frozen BK537.out 2; have hfz55_3 := blk_frozen BK537.out 3; have hfz55_4 := blk_frozen BK537.out 4; have hnb56 := NB536_538.out; have hnc56 := NB538_536.out; obtain ⟨hcz57_0, hcz57_1, hfz57_0, hfz57_1⟩ := cz2_ BK536) | ((with_reducible refine gate_callee (f := 32) rfl ?_); refine goesL_ (some 44) rfl rfl Try.func32 (by kernel_rfl) rfl #[.agg #[.int .i64 a0_0, .slice A0_1 l0_1.length c0_1], .int .i64 a1_1, .int .i64 a1_2, .int .i64 a1_3] rfl MP_ ?_; (with_reducible refine (warrantorref09_Limit.calls k a0_0 (fun k_ => ((((P0_1_ k_ ∨ w.heap.size ≤ k_) ∧ k_ ≠ gb536) ∧ k_ ≠ gb537) ∧ k_ ≠ gb538)) _ _ l0_1 a1_1 a1_2 a1_3 t559 t560 _ ?side1 A49.out).mono ?_); (case side1 => exact HO0_1.out); rintro e w58 ⟨v561, rfl, ho0, hb⟩; refine ⟨_, rfl, ?_⟩; have n_ := a_ (Aside0.mk (Kd.V_below (by (with_reducible repeat (first | apply Kd.V_alloc | apply Kd.V_drewN | apply Kd.V_drew)); exact HO0_1.out) hb)) (a_ (Aside0.mk (Kd.V_lower (Kd.V_mono (ok' := fun k_ => (P0_1_ k_ ∨ w.heap.size ≤ k_) ∧ k_ ≠ gb536 ∧ k_ ≠ gb537 ∧ k_ ≠ gb538) ho0 (fun k_ hk_ => ⟨Or.elim hk_ (fun hs_ => hs_.1.1.1) (fun hn_ => (.inr (Nat.le_trans (below_size HB_) hn_))), Or.elim hk_ (fun hs_ => hs_.1.1.2) (fun hn_ => (Kd.freshB (g := gb536) (o := .cells #[.int .i64 a0_0, .slice A0_1 l0_1.length c0_1] 24 (0, 0)) (bk_ BK536.out) k_ hn_)), Or.elim hk_ (fun hs_ => hs_.1.2) (fun hn_ => (Kd.freshB (g := gb537) (o := .cells #[.int .i64 a1_0, .int .i64 a1_1, .int .i64 a1_2, .int .i64 a1_3, .int .i64 a1_4] 26 (0, 0)) (bk_ BK537.out) k_ hn_)), Or.elim hk_ (fun hs_ => hs_.2) (fun hn_ => (Kd.freshB (g := gb538) (o := .cells #[.int .i64 0, .slice none 0 0] 24 (0, 0)) (bk_ BK538.out) k_ hn_))⟩)) (below_size HB_))) (a_ (bb_ BK536 hb) (a_ (bb_ BK537 hb) (a_ (bb_ BK538 hb) (bs_ HB hb))))); clear HO0_1 BK536 BK537 BK538 HB; obtain ⟨HO0_1, HO562, BK536, BK537, BK538, HB⟩ := n_; (try clear hb); (try clear hb2); (try clear hk); (try clear hi); (try clear ho0); obtain ⟨hcz59_0, hcz59_1, hfz59_0, hfz59_1⟩ := cz2_ BK538; obtain ⟨Ao60, co60, eo60⟩ := Kd.V_slice HO562.out; subst eo60))
    refine bodyPost_ret (results_cell_row rfl _ _ gb538 24 #[.int .i64 t559, .slice Ao60 t560.length co60] (0, 0) _ rfl (bk2_ BK538.out) Try.underlying24 rfl (by kernel_rfl)) rfl ?_
    exact ⟨_, by first | rfl | (simp [errW_none, errW_some] <;> rfl) | (simp [*, errW_none, errW_some] <;> rfl), by (with_reducible repeat (first | apply Kd.V_alloc | apply Kd.V_drewN | apply Kd.V_drew)); exact Kd.V_mono (Kd.V_far (p := ⟨gb538, 1, none⟩) (Kd.V_far (p := ⟨gb538, 0, none⟩) (Kd.V_mono HO562.out (fun k_ hk => (⟨hk, hk.2.2.2⟩ : _ ∧ k_ ≠ gb538))) (fun _ hk => hk.2) (.int .i64 t559)) (fun _ hk => hk.2) (.slice Ao60 t560.length co60)) (fun _ hk => hk.1.1), HB_⟩
  rw [if_pos c16] at H
  have c16b0 : (a1_0 == 3) = true := beq_iff_eq.mpr c16
  have c16b1 : (a1_0 != 3) = false := bne_eq_false_iff_eq.mpr c16
  clear c16
  replace H := Option.bind_eq_some_iff.mp H
  obtain ⟨⟨t543, t544⟩, A170, H⟩ := H
  replace H : ((warrantorref09_Limit.f k t543 t544 a1_1 0 a1_4).bind fun bt547 => ((warrantorref09_Limit.f k bt547.1 bt547.2 0 a1_1 (wrap64 (-a1_3))).bind fun bt551 => (some (bt551.1, bt551.2)))) = some (r1, r2) := H
  have A17 := Aside0.mk A170
  clear A170
  replace H := Option.bind_eq_some_iff.mp H
  obtain ⟨⟨t547, t548⟩, A180, H⟩ := H
  replace H : ((warrantorref09_Limit.f k t547 t548 0 a1_1 (wrap64 (-a1_3))).bind fun bt551 => (some (bt551.1, bt551.2))) = some (r1, r2) := H
  have A18 := Aside0.mk A180
  clear A180
  replace H := Option.bind_eq_some_iff.mp H
  obtain ⟨⟨t551, t552⟩, A190, H⟩ := H
  replace H : (some (t551, t552)) = some (r1, r2) := H
  have A19 := Aside0.mk A190
  clear A190
  simp only [Option.some.injEq, Prod.mk.injEq] at H
  obtain ⟨rfl, rfl⟩ := H
  go_enter Try.func21, Try.ntmps21
  try go_wp2_with (first | ((with_reducible refine gate_dst (N := 2) rfl ?_); refine bx_ (N := 2) (cs := #[.int .i64 a0_0, .slice A0_1 l0_1.length c0_1]) (t := 24) ?_; intro gb536 hg w20 hbox hb; have n_ := a_ (Aside0.mk (Kd.V_below (Kd.V_elderB (by (with_reducible repeat (first | apply Kd.V_alloc | apply Kd.V_drewN | apply Kd.V_drew)); exact HO0_1.out) gb536 (Nat.le_of_eq hg.symm)) hb)) (a_ (bs_ HB hb) (a_ (Aside0.mk hbox) (a_ (gs_ HB hg) (gs_ HB hg)))); clear HO0_1 HB; obtain ⟨HO0_1, HB, BK536, GW536, GE536⟩ := n_; clear hb hbox hg) | ((with_reducible refine gate_dst (N := 3) rfl ?_); refine bx_ (N := 3) (cs := #[.int .i64 a1_0, .int .i64 a1_1, .int .i64 a1_2, .int .i64 a1_3, .int .i64 a1_4]) (t := 26) ?_; intro gb537 hg w21 hbox hb; have n_ := a_ (Aside0.mk (Kd.V_below (Kd.V_elderB (by (with_reducible repeat (first | apply Kd.V_alloc | apply Kd.V_drewN | apply Kd.V_drew)); exact HO0_1.out) gb537 (Nat.le_of_eq hg.symm)) hb)) (a_ (bb_ BK536 hb) (a_ (bs_ HB hb) (a_ (Aside0.mk hbox) (a_ (gs_ HB hg) (a_ (gs_ HB hg) (a_ (nl_ BK536 hg) (ng_ BK536 hg))))))); clear HO0_1 BK536 HB; obtain ⟨HO0_1, BK536, HB, BK537, GW537, GE537, NB536_537, NB537_536⟩ := n_; clear hb hbox hg) | ((with_reducible refine gate_dst (N := 4) rfl ?_); refine bx_ (N := 4) (cs := #[.int .i64 0, .slice none 0 0]) (t := 24) ?_; intro gb538 hg w22 hbox hb; have n_ := a_ (Aside0.mk (Kd.V_below (Kd.V_elderB (by (with_reducible repeat (first | apply Kd.V_alloc | apply Kd.V_drewN | apply Kd.V_drew)); exact HO0_1.out) gb538 (Nat.le_of_eq hg.symm)) hb)) (a_ (bb_ BK536 hb) (a_ (bb_ BK537 hb) (a_ (bs_ HB hb) (a_ (Aside0.mk hbox) (a_ (gs_ HB hg) (a_ (gs_ HB hg) (a_ (nl_ BK536 hg) (a_ (ng_ BK536 hg) (a_ (nl_ BK537 hg) (ng_ BK537 hg)))))))))); clear HO0_1 BK536 BK537 HB; obtain ⟨HO0_1, BK536, BK537, HB, BK538, GW538, GE538, NB536_538, NB538_536, NB537_538, NB538_537⟩ := n_; clear hb hbox hg; have hnb23 := NB537_536.out; have hnc23 := NB536_537.out; have hnb24 := NB537_538.out; have hnc24 := NB538_537.out; have hcz25_0 : w22.cell? ⟨gb537, 0, none⟩ = some (.int .i64 a1_0) := (blk_cell BK537.out 0).trans rfl; have hcz25_1 : w22.cell? ⟨gb537, 1, none⟩ = some (.int .i64 a1_1) := (blk_cell BK537.out 1).trans rfl; have hcz25_2 : w22.cell? ⟨gb537, 2, none⟩ = some (.int .i64 a1_2) := (blk_cell BK537.out 2).trans rfl; have hcz25_3 : w22.cell? ⟨gb537, 3, none⟩ = some (.int .i64 a1_3) := (blk_cell BK537.out 3).trans rfl; have hcz25_4 : w22.cell? ⟨gb537, 4, none⟩ = some (.int .i64 a1_4) := (blk_cell BK537.out 4).trans rfl; have hfz25_0 := blk_frozen BK537.out 0; have hfz25_1 := blk_frozen BK537.out 1; have hfz25_2 := blk_frozen BK537.out 2; have hfz25_3 := blk_frozen BK537.out 3; have hfz25_4 := blk_frozen BK537.out 4))
  have n_ := a_ (Aside0.mk (Kd.V_drew HO0_1.out)) (a_ (Aside0.mk (blk_drew BK536.out)) (a_ (Aside0.mk (blk_drew BK537.out)) (a_ (Aside0.mk (blk_drew BK538.out)) (Aside0.mk (below_drew1 HB.out)))))
  clear HO0_1 BK536 BK537 BK538 HB
  obtain ⟨HO0_1, BK536, BK537, BK538, HB⟩ := n_
  refine start_ (n := 16) (S := fun w' => w'.cell? ⟨gb536, 0, none⟩ = some (.int .i64 a0_0) ∧ w'.cell? ⟨gb536, 1, none⟩ = some (.slice A0_1 l0_1.length c0_1) ∧ w'.cell? ⟨gb537, 0, none⟩ = some (.int .i64 a1_0) ∧ w'.cell? ⟨gb537, 1, none⟩ = some (.int .i64 a1_1) ∧ w'.cell? ⟨gb537, 2, none⟩ = some (.int .i64 a1_2) ∧ w'.cell? ⟨gb537, 3, none⟩ = some (.int .i64 a1_3) ∧ w'.cell? ⟨gb537, 4, none⟩ = some (.int .i64 a1_4)) (ds := []) #[false, false, false, false, false, false, false, false, false, false, false, false, false, false, false, false] (by kernel_rfl) rfl rfl ⟨(blk_cell BK536.out 0).trans rfl, (blk_cell BK536.out 1).trans rfl, (blk_cell BK537.out 0).trans rfl, (blk_cell BK537.out 1).trans rfl, (blk_cell BK537.out 2).trans rfl, (blk_cell BK537.out 3).trans rfl, (blk_cell BK537.out 4).trans rfl⟩ (fun hHeld => ?_); refine with_tabW warrantorref14_Post.tab5 warrantorref14_Post.bits5 (fun HT_ HW_ => ?_)
  generalize w22.drew = w26 at HO0_1 BK536 BK537 BK538 HB hHeld ⊢
  refine pu_ 1 (some 20) ?_
  refine pu_ 4 (some 23) ?_
  refine pu_ 6 (some 25) ?_
  refine pu_ 9 (some 28) ?_
  refine pu_ 11 (some 30) ?_
  refine take_ (i := 0) (N := some 19) (v := ?_) (a' := ?_) #[true, true, false, false, true, false, true, false, false, true, false, true, false, false, false, false] rfl rfl (take_ofW HT_.out HW_.out (by kernel_rfl)) (fun _ _ _ h => h) (Or.inl ⟨by rfl, ?_⟩) hHeld ?_ ?_
  rotate_left
  · rintro w' ⟨s0, s1, s2, s3, s4, s5, s6⟩
    go_simp
    with_reducible rfl
  rotate_left
  · exact AP_
  refine take_ (i := 2) (N := some 21) (v := ?_) (a' := ?_) #[true, true, true, false, true, false, true, false, false, true, false, true, false, false, false, false] rfl rfl (take_ofW HT_.out HW_.out (by kernel_rfl)) (fun _ _ _ h => h) (Or.inl ⟨by rfl, ?_⟩) hHeld ?_ ?_
  rotate_left
  · rintro w' ⟨s0, s1, s2, s3, s4, s5, s6⟩
    go_simp
    with_reducible rfl
  rotate_left
  · exact AP_
  refine take_ (i := 5) (N := some 24) (v := ?_) (a' := ?_) #[true, true, true, false, true, true, true, false, false, true, false, true, false, false, false, false] rfl rfl (take_ofW HT_.out HW_.out (by kernel_rfl)) (fun _ _ _ h => h) (Or.inl ⟨by rfl, ?_⟩) hHeld ?_ ?_
  rotate_left
  · rintro w' ⟨s0, s1, s2, s3, s4, s5, s6⟩
    go_simp
    with_reducible rfl
  rotate_left
  · exact AP_
  refine take_ (i := 7) (N := some 26) (v := ?_) (a' := ?_) #[true, true, true, false, true, true, true, true, false, true, false, true, false, false, false, false] rfl rfl (take_ofW HT_.out HW_.out (by kernel_rfl)) (fun _ _ _ h => h) (Or.inl ⟨by rfl, ?_⟩) hHeld ?_ ?_
  rotate_left
  · rintro w' ⟨s0, s1, s2, s3, s4, s5, s6⟩
    go_simp
    with_reducible rfl
  rotate_left
  · exact AP_
  refine take_ (i := 10) (N := some 29) (v := ?_) (a' := ?_) #[true, true, true, false, true, true, true, true, false, true, true, true, false, false, false, false] rfl rfl (take_ofW HT_.out HW_.out (by kernel_rfl)) (fun _ _ _ h => h) (Or.inl ⟨by rfl, ?_⟩) hHeld ?_ ?_
  rotate_left
  · rintro w' ⟨s0, s1, s2, s3, s4, s5, s6⟩
    go_simp
    with_reducible rfl
  rotate_left
  · exact AP_
  refine take_ (i := 12) (N := some 31) (v := ?_) (a' := ?_) #[true, true, true, false, true, true, true, true, false, true, true, true, true, false, false, false] rfl rfl (take_ofW HT_.out HW_.out (by kernel_rfl)) (fun _ _ _ h => h) (Or.inl ⟨by rfl, ?_⟩) hHeld ?_ ?_
  rotate_left
  · rintro w' ⟨s0, s1, s2, s3, s4, s5, s6⟩
    go_simp
    with_reducible rfl
  rotate_left
  · exact AP_
  refine pu_ 13 (some 32) ?_
  refine on_ 3 (some 22) (fun K hK => ?_)
  refine goes_ Try.func31 (by kernel_rfl) rfl #[.agg #[.int .i64 a0_0, .slice A0_1 l0_1.length c0_1], .int .i64 a1_1] (by rfl) rfl rfl MP_ ?_
  with_reducible refine (warrantorref09_Forget.calls k a0_0 (fun k_ => ((((P0_1_ k_ ∨ w.heap.size ≤ k_) ∧ k_ ≠ gb536) ∧ k_ ≠ gb537) ∧ k_ ≠ gb538)) _ _ l0_1 a1_1 t543 t544 _ ?side1 A17.out).mono ?_
  (case side1 => exact HO0_1.out)
  rintro e w27 ⟨v545, rfl, ho0, hb⟩
  refine ⟨_, rfl, ?_⟩
  have n_ := a_ (Aside0.mk (Kd.V_below (by (with_reducible repeat (first | apply Kd.V_alloc | apply Kd.V_drewN | apply Kd.V_drew)); exact HO0_1.out) hb)) (a_ (Aside0.mk (Kd.V_lower (Kd.V_mono (ok' := fun k_ => (P0_1_ k_ ∨ w.heap.size ≤ k_) ∧ k_ ≠ gb536 ∧ k_ ≠ gb537 ∧ k_ ≠ gb538) ho0 (fun k_ hk_ => ⟨Or.elim hk_ (fun hs_ => hs_.1.1.1) (fun hn_ => (.inr (Nat.le_trans (below_size HB_) hn_))), Or.elim hk_ (fun hs_ => hs_.1.1.2) (fun hn_ => (Kd.freshB (g := gb536) (o := .cells #[.int .i64 a0_0, .slice A0_1 l0_1.length c0_1] 24 (0, 0)) (bk_ BK536.out) k_ hn_)), Or.elim hk_ (fun hs_ => hs_.1.2) (fun hn_ => (Kd.freshB (g := gb537) (o := .cells #[.int .i64 a1_0, .int .i64 a1_1, .int .i64 a1_2, .int .i64 a1_3, .int .i64 a1_4] 26 (0, 0)) (bk_ BK537.out) k_ hn_)), Or.elim hk_ (fun hs_ => hs_.2) (fun hn_ => (Kd.freshB (g := gb538) (o := .cells #[.int .i64 0, .slice none 0 0] 24 (0, 0)) (bk_ BK538.out) k_ hn_))⟩)) (below_size HB_))) (a_ (bb_ BK536 hb) (a_ (bb_ BK537 hb) (a_ (bb_ BK538 hb) (bs_ HB hb)))))
  clear HO0_1 BK536 BK537 BK538 HB
  obtain ⟨HO0_1, HO546, BK536, BK537, BK538, HB⟩ := n_
  (try clear hb)
  (try clear hb2)
  (try clear hk)
  (try clear hi)
  (try clear ho0)
  obtain ⟨Ao28, co28, eo28⟩ := Kd.V_slice HO546.out
  (first | subst eo28 | (injection eo28 with f1_ f2_ f3_; have f4_ := f1_.symm; have f5_ := f3_.symm; clear f1_ f2_ f3_; subst f4_; subst f5_))
  refine hK.out _ _ ⟨(blk_cell BK536.out 0).trans rfl, (blk_cell BK536.out 1).trans rfl, (blk_cell BK537.out 0).trans rfl, (blk_cell BK537.out 1).trans rfl, (blk_cell BK537.out 2).trans rfl, (blk_cell BK537.out 3).trans rfl, (blk_cell BK537.out 4).trans rfl⟩ (fun hHeld => ?_)
  clear hK K
  refine nm_ ?_
  refine on_ 8 (some 27) (fun K hK => ?_)
  refine goes_ Try.func32 (by kernel_rfl) rfl #[.agg #[.int .i64 t543, .slice Ao28 t544.length co28], .int .i64 a1_1, .int .i64 0, .int .i64 a1_4] (by rfl) rfl rfl MP_ ?_
  with_reducible refine (warrantorref09_Limit.calls k t543 (fun k_ => ((P0_1_ k_ ∨ w.heap.size ≤ k_) ∧ (k_ ≠ gb536 ∧ (k_ ≠ gb537 ∧ k_ ≠ gb538)))) _ _ t544 a1_1 0 a1_4 t547 t548 _ ?side1 A18.out).mono ?_
  (case side1 => exact HO546.out)
  rintro e w29 ⟨v549, rfl, ho0, hb⟩
  refine ⟨_, rfl, ?_⟩
  have n_ := a_ (Aside0.mk (Kd.V_below (by (with_reducible repeat (first | apply Kd.V_alloc | apply Kd.V_drewN | apply Kd.V_drew)); exact HO0_1.out) hb)) (a_ (Aside0.mk (Kd.V_below (by (with_reducible repeat (first | apply Kd.V_alloc | apply Kd.V_drewN | apply Kd.V_drew)); exact HO546.out) hb)) (a_ (Aside0.mk (Kd.V_lower (Kd.V_mono (ok' := fun k_ => (P0_1_ k_ ∨ w.heap.size ≤ k_) ∧ k_ ≠ gb536 ∧ k_ ≠ gb537 ∧ k_ ≠ gb538) ho0 (fun k_ hk_ => ⟨Or.elim hk_ (fun hs_ => hs_.1) (fun hn_ => (.inr (Nat.le_trans (below_size HB_) hn_))), Or.elim hk_ (fun hs_ => hs_.2.1) (fun hn_ => (Kd.freshB (g := gb536) (o := .cells #[.int .i64 a0_0, .slice A0_1 l0_1.length c0_1] 24 (0, 0)) (bk_ BK536.out) k_ hn_)), Or.elim hk_ (fun hs_ => hs_.2.2.1) (fun hn_ => (Kd.freshB (g := gb537) (o := .cells #[.int .i64 a1_0, .int .i64 a1_1, .int .i64 a1_2, .int .i64 a1_3, .int .i64 a1_4] 26 (0, 0)) (bk_ BK537.out) k_ hn_)), Or.elim hk_ (fun hs_ => hs_.2.2.2) (fun hn_ => (Kd.freshB (g := gb538) (o := .cells #[.int .i64 0, .slice none 0 0] 24 (0, 0)) (bk_ BK538.out) k_ hn_))⟩)) (below_size HB_))) (a_ (bb_ BK536 hb) (a_ (bb_ BK537 hb) (a_ (bb_ BK538 hb) (bs_ HB hb))))))
  clear HO0_1 HO546 BK536 BK537 BK538 HB
  obtain ⟨HO0_1, HO546, HO550, BK536, BK537, BK538, HB⟩ := n_
  (try clear hb)
  (try clear hb2)
  (try clear hk)
  (try clear hi)
  (try clear ho0)
  obtain ⟨Ao30, co30, eo30⟩ := Kd.V_slice HO550.out
  (first | subst eo30 | (injection eo30 with f1_ f2_ f3_; have f4_ := f1_.symm; have f5_ := f3_.symm; clear f1_ f2_ f3_; subst f4_; subst f5_))
  refine hK.out _ _ ⟨(blk_cell BK536.out 0).trans rfl, (blk_cell BK536.out 1).trans rfl, (blk_cell BK537.out 0).trans rfl, (blk_cell BK537.out 1).trans rfl, (blk_cell BK537.out 2).trans rfl, (blk_cell BK537.out 3).trans rfl, (blk_cell BK537.out 4).trans rfl⟩ (fun hHeld => ?_)
  clear hK K
  refine nm_ ?_
  refine on_ 14 (some 33) (fun K hK => ?_)
  refine goes_ Try.func32 (by kernel_rfl) rfl #[.agg #[.int .i64 t547, .slice Ao30 t548.length co30], .int .i64 0, .int .i64 a1_1, .int .i64 (wrap64 (-a1_3))] (by rfl) rfl rfl MP_ ?_
  with_reducible refine (warrantorref09_Limit.calls k t547 (fun k_ => ((P0_1_ k_ ∨ w.heap.size ≤ k_) ∧ (k_ ≠ gb536 ∧ (k_ ≠ gb537 ∧ k_ ≠ gb538)))) _ _ t548 0 a1_1 (wrap64 (-a1_3)) t551 t552 _ ?side1 A19.out).mono ?_
  (case side1 => exact HO550.out)
  rintro e w31 ⟨v553, rfl, ho0, hb⟩
  refine ⟨_, rfl, ?_⟩
  have n_ := a_ (Aside0.mk (Kd.V_below (by (with_reducible repeat (first | apply Kd.V_alloc | apply Kd.V_drewN | apply Kd.V_drew)); exact HO0_1.out) hb)) (a_ (Aside0.mk (Kd.V_below (by (with_reducible repeat (first | apply Kd.V_alloc | apply Kd.V_drewN | apply Kd.V_drew)); exact HO546.out) hb)) (a_ (Aside0.mk (Kd.V_below (by (with_reducible repeat (first | apply Kd.V_alloc | apply Kd.V_drewN | apply Kd.V_drew)); exact HO550.out) hb)) (a_ (Aside0.mk (Kd.V_lower (Kd.V_mono (ok' := fun k_ => (P0_1_ k_ ∨ w.heap.size ≤ k_) ∧ k_ ≠ gb536 ∧ k_ ≠ gb537 ∧ k_ ≠ gb538) ho0 (fun k_ hk_ => ⟨Or.elim hk_ (fun hs_ => hs_.1) (fun hn_ => (.inr (Nat.le_trans (below_size HB_) hn_))), Or.elim hk_ (fun hs_ => hs_.2.1) (fun hn_ => (Kd.freshB (g := gb536) (o := .cells #[.int .i64 a0_0, .slice A0_1 l0_1.length c0_1] 24 (0, 0)) (bk_ BK536.out) k_ hn_)), Or.elim hk_ (fun hs_ => hs_.2.2.1) (fun hn_ => (Kd.freshB (g := gb537) (o := .cells #[.int .i64 a1_0, .int .i64 a1_1, .int .i64 a1_2, .int .i64 a1_3, .int .i64 a1_4] 26 (0, 0)) (bk_ BK537.out) k_ hn_)), Or.elim hk_ (fun hs_ => hs_.2.2.2) (fun hn_ => (Kd.freshB (g := gb538) (o := .cells #[.int .i64 0, .slice none 0 0] 24 (0, 0)) (bk_ BK538.out) k_ hn_))⟩)) (below_size HB_))) (a_ (bb_ BK536 hb) (a_ (bb_ BK537 hb) (a_ (bb_ BK538 hb) (bs_ HB hb)))))))
  clear HO0_1 HO546 HO550 BK536 BK537 BK538 HB
  obtain ⟨HO0_1, HO546, HO550, HO554, BK536, BK537, BK538, HB⟩ := n_
  (try clear hb)
  (try clear hb2)
  (try clear hk)
  (try clear hi)
  (try clear ho0)
  obtain ⟨Ao33, co33, eo33⟩ := Kd.V_slice HO554.out
  (first | subst eo33 | (injection eo33 with f1_ f2_ f3_; have f4_ := f1_.symm; have f5_ := f3_.symm; clear f1_ f2_ f3_; subst f4_; subst f5_))
  refine hK.out _ _ ⟨(blk_cell BK536.out 0).trans rfl, (blk_cell BK536.out 1).trans rfl, (blk_cell BK537.out 0).trans rfl, (blk_cell BK537.out 1).trans rfl, (blk_cell BK537.out 2).trans rfl, (blk_cell BK537.out 3).trans rfl, (blk_cell BK537.out 4).trans rfl⟩ (fun hHeld => ?_)
  clear hK K
  refine nm_ ?_
  refine on_ 15 (none) (fun K hK => ?_)
  have hs32 : w31.cell? ⟨gb538, 0, none⟩ = some (.int .i64 0) := (blk_cell BK538.out 0).trans rfl
  have hfs32 := blk_frozen BK538.out 0
  have hns32_0 := NB536_538.out
  have hns32_1 := NB537_538.out
  have hms32_0 := NB538_536.out
  have hms32_1 := NB538_537.out
  have hs34 : w31.cell? ⟨gb538, 1, none⟩ = some (.slice none 0 0) := (blk_cell BK538.out 1).trans rfl
  have hfs34 := blk_frozen BK538.out 1
  have hns34_0 := NB536_538.out
  have hns34_1 := NB537_538.out
  have hms34_0 := NB538_536.out
  have hms34_1 := NB538_537.out
  refine skip_ (w1 := ?_) (by rfl) rfl ?_ ?_
  rotate_left
  · go_simp
    rfl
  refine hK.out _ _ ⟨((cell_far (p := ⟨gb538, _, none⟩) NB536_538.out _).trans (((cell_far (p := ⟨gb538, _, none⟩) NB536_538.out _).trans (hHeld.1)))), ((cell_far (p := ⟨gb538, _, none⟩) NB536_538.out _).trans (((cell_far (p := ⟨gb538, _, none⟩) NB536_538.out _).trans (hHeld.2.1)))), ((cell_far (p := ⟨gb538, _, none⟩) NB537_538.out _).trans (((cell_far (p := ⟨gb538, _, none⟩) NB537_538.out _).trans (hHeld.2.2.1)))), ((cell_far (p := ⟨gb538, _, none⟩) NB537_538.out _).trans (((cell_far (p := ⟨gb538, _, none⟩) NB537_538.out _).trans (hHeld.2.2.2.1)))), ((cell_far (p := ⟨gb538, _, none⟩) NB537_538.out _).trans (((cell_far (p := ⟨gb538, _, none⟩) NB537_538.out _).trans (hHeld.2.2.2.2.1)))), ((cell_far (p := ⟨gb538, _, none⟩) NB537_538.out _).trans (((cell_far (p := ⟨gb538, _, none⟩) NB537_538.out _).trans (hHeld.2.2.2.2.2.1)))), ((cell_far (p := ⟨gb538, _, none⟩) NB537_538.out _).trans (((cell_far (p := ⟨gb538, _, none⟩) NB537_538.out _).trans (hHeld.2.2.2.2.2.2))))⟩ (fun hHeld => ?_)
  clear hK K
  refine done_ (done_of HT_.out (by kernel_rfl)) ?_
  try go_wp2
  refine bodyPost_ret (results_cell_row rfl _ _ gb538 24 #[.int .i64 t551, .slice Ao33 t552.length co33] (0, 0) _ rfl (bk2_ BK538.out) Try.underlying24 rfl (by kernel_rfl)) rfl ?_
  exact ⟨_, by first | rfl | (simp [errW_none, errW_some] <;> rfl) | (simp [*, errW_none, errW_some] <;> rfl), by (with_reducible repeat (first | apply Kd.V_alloc | apply Kd.V_drewN | apply Kd.V_drew)); exact Kd.V_mono (Kd.V_far (p := ⟨gb538, 1, none⟩) (Kd.V_far (p := ⟨gb538, 0, none⟩) (Kd.V_mono HO554.out (fun k_ hk => (⟨hk, hk.2.2.2⟩ : _ ∧ k_ ≠ gb538))) (fun _ hk => hk.2) (.int .i64 t551)) (fun _ hk => hk.2) (.slice Ao33 t552.length co33)) (fun _ hk => hk.1.1), HB_⟩
end Go.Proofs.Ytgeemdpflcefkaa.Y
