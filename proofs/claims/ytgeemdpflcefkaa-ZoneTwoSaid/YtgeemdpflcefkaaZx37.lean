-- WRITTEN BY this session's program wip/ext.py, in print.py's manner
import Derived.Test.YtgeemdpflcefkaaZx0
import Derived.Test.YtgeemdpflcefkaaZx34
namespace Go.Proofs.Ytgeemdpflcefkaa.Z
open Go.RowKit Go.Proofs.YtgeemdpflcefkaaW.PrintWords Go.Proofs.YtgeemdpflcefkaaW.PrintLast Go.Proofs.YtgeemdpflcefkaaW.PrintMore
attribute [local go_sem] max2_int min2_int max_two min_two max_three min_three max_four min_four   -- for this text's walks alone
set_option linter.unusedVariables false
set_option linter.unusedSimpArgs false

/-! ### warrantorref09_Join: function 41 -/
def warrantorref09_Join.l0 : Nat → List Int → Int → Int → List Int → Int → List Int → Option (Int × List Int)
  | 0, _, _, _, _, _, _ => none
  | k + 1, x5, x6, x416000, x416001, x417000, x417001 => if x6 < (x416001.length : Int) then (if 0 ≤ x6 then (if x6 < (x417001.length : Int) then (if (rd x417001 x6) > (rd x416001 x6) then (if x5.length < 17592186044416 then (warrantorref09_Join.l0 k (x5 ++ [rd x417001 x6]) (wrap64 (x6 + 1)) x416000 x416001 x417000 x417001) else (none)) else (if x5.length < 17592186044416 then (warrantorref09_Join.l0 k (x5 ++ [rd x416001 x6]) (wrap64 (x6 + 1)) x416000 x416001 x417000 x417001) else (none))) else (none)) else (none)) else ((warrantorref08_Close.f k x416000 x5).bind fun bt427 => (some (bt427.1, bt427.2)))
def warrantorref09_Join.f (k : Nat) (a0_0 : Int) (l0_1 : List Int) (a1_0 : Int) (l1_1 : List Int) : Option (Int × List Int) := if (l0_1.length : Int) = 0 then (some (a1_0, l1_1)) else (if (l1_1.length : Int) = 0 then (some (a0_0, l0_1)) else (warrantorref09_Join.l0 k ([] : List Int) 0 a0_0 l0_1 a1_0 l1_1))
theorem warrantorref09_Join.mono_l : ∀ k, (∀ y0 y1 y2 y3 y4 y5, LeO (warrantorref09_Join.l0 k y0 y1 y2 y3 y4 y5) (warrantorref09_Join.l0 (k + 1) y0 y1 y2 y3 y4 y5))
  | 0 => fun _ _ _ _ _ _ r h => by simp [warrantorref09_Join.l0] at h
  | k + 1 => by
    have ih0 := warrantorref09_Join.mono_l k
    · intro y0 y1 y2 y3 y4 y5
      unfold warrantorref09_Join.l0
      repeat' first
      | (with_reducible exact ih0 _ _ _ _ _ _)
      | (with_reducible exact warrantorref08_Close.mono _ _ _)
      | (with_reducible exact LeO.refl _)
      | (with_reducible exact LeO.none _)
      | (with_reducible refine LeO.ite ?_ ?_)
      | (with_reducible refine LeO.bind ?_ (fun _ => ?_))
      | exact ih0 _ _ _ _ _ _
      | exact warrantorref08_Close.mono _ _ _
      | exact LeO.none _
      | refine LeO.ite ?_ ?_
      | refine LeO.bind ?_ (fun _ => ?_)
theorem warrantorref09_Join.mono : ∀ a0 a1 a2 a3 k, LeO (warrantorref09_Join.f k a0 a1 a2 a3) (warrantorref09_Join.f (k + 1) a0 a1 a2 a3) := by
  intro a0 a1 a2 a3 k
  have ih0 := warrantorref09_Join.mono_l k
  unfold warrantorref09_Join.f
  repeat' first
      | (with_reducible exact ih0 _ _ _ _ _ _)
      | (with_reducible exact warrantorref08_Close.mono _ _ _)
      | (with_reducible exact LeO.refl _)
      | (with_reducible exact LeO.none _)
      | (with_reducible refine LeO.ite ?_ ?_)
      | (with_reducible refine LeO.bind ?_ (fun _ => ?_))
      | exact ih0 _ _ _ _ _ _
      | exact warrantorref08_Close.mono _ _ _
      | exact LeO.none _
      | refine LeO.ite ?_ ?_
      | refine LeO.bind ?_ (fun _ => ?_)
set_option maxHeartbeats 8000000 in
set_option maxRecDepth 100000 in
theorem warrantorref09_Join.calls (k : Nat) (a0_0 : Int) (P0_1_ : Nat → Prop) (A0_1 : Option Addr) (c0_1 : Nat) (l0_1 : List Int) (a1_0 : Int) (P1_1_ : Nat → Prop) (A1_1 : Option Addr) (c1_1 : Nat) (l1_1 : List Int) (r1 : Int) (r2 : List Int) (w : World) (hs0_1 : Kd.V (Kd.int .i64) 3 w w.heap.size (fun k_ => P0_1_ k_) (.slice A0_1 l0_1.length c0_1) l0_1) (hs1_1 : Kd.V (Kd.int .i64) 3 w w.heap.size (fun k_ => P1_1_ k_) (.slice A1_1 l1_1.length c1_1) l1_1) (h : warrantorref09_Join.f k a0_0 l0_1 a1_0 l1_1 = some (r1, r2)) :
    Calls Try.prog 41 #[.agg #[.int .i64 a0_0, .slice A0_1 l0_1.length c0_1], .agg #[.int .i64 a1_0, .slice A1_1 l1_1.length c1_1]] w fun e w' => ∃ v1_ : Value, e = .returned (.agg #[.int .i64 r1, v1_]) ∧ Kd.V (Kd.int .i64) 3 w' w.heap.size (fun k_ => ((P0_1_ k_ ∨ P1_1_ k_) ∨ w.heap.size ≤ k_)) v1_ r2 ∧ Below w.heap.size w w' := by
  have hu24 := Try.underlying24
  have HO0_1 := Aside0.mk (show Kd.V (Kd.int .i64) 3 w w.heap.size (fun k_ => ((P0_1_ k_ ∨ P1_1_ k_) ∨ w.heap.size ≤ k_)) (.slice A0_1 l0_1.length c0_1) l0_1 from Kd.V_mono hs0_1 (fun k_ hk => .inl (.inl hk)))
  have HO1_1 := Aside0.mk (show Kd.V (Kd.int .i64) 3 w w.heap.size (fun k_ => ((P0_1_ k_ ∨ P1_1_ k_) ∨ w.heap.size ≤ k_)) (.slice A1_1 l1_1.length c1_1) l1_1 from Kd.V_mono hs1_1 (fun k_ hk => .inl (.inr hk)))
  have HB := Aside0.mk (Below.refl w.heap.size w)
  have H : (if (l0_1.length : Int) = 0 then (some (a1_0, l1_1)) else (if (l1_1.length : Int) = 0 then (some (a0_0, l0_1)) else (warrantorref09_Join.l0 k ([] : List Int) 0 a0_0 l0_1 a1_0 l1_1))) = some (r1, r2) := h
  clear h
  by_cases c3 : (l0_1.length : Int) = 0
  · rw [if_pos c3] at H
    have c3b0 : ((l0_1.length : Int) == 0) = true := beq_iff_eq.mpr c3
    have c3b1 : ((l0_1.length : Int) != 0) = false := bne_eq_false_iff_eq.mpr c3
    clear c3
    simp only [Option.some.injEq, Prod.mk.injEq] at H
    obtain ⟨rfl, rfl⟩ := H
    go_enter Try.func41, Try.ntmps41
    go_wp2_with (first | ((with_reducible refine gate_dst (N := 2) rfl ?_); refine bx_ (N := 2) (cs := #[.int .i64 a0_0, .slice A0_1 l0_1.length c0_1]) (t := 24) ?_; intro gb415 hg w4 hbox hb; have n_ := a_ (Aside0.mk (Kd.V_below (Kd.V_elderB (by (with_reducible repeat (first | apply Kd.V_alloc | apply Kd.V_drewN | apply Kd.V_drew)); exact HO0_1.out) gb415 (Nat.le_of_eq hg.symm)) hb)) (a_ (Aside0.mk (Kd.V_below (Kd.V_elderB (by (with_reducible repeat (first | apply Kd.V_alloc | apply Kd.V_drewN | apply Kd.V_drew)); exact HO1_1.out) gb415 (Nat.le_of_eq hg.symm)) hb)) (a_ (bs_ HB hb) (a_ (Aside0.mk hbox) (a_ (gs_ HB hg) (gs_ HB hg))))); clear HO0_1 HO1_1 HB; obtain ⟨HO0_1, HO1_1, HB, BK415, GW415, GE415⟩ := n_; clear hb hbox hg) | ((with_reducible refine gate_dst (N := 3) rfl ?_); refine bx_ (N := 3) (cs := #[.int .i64 a1_0, .slice A1_1 l1_1.length c1_1]) (t := 24) ?_; intro gb416 hg w5 hbox hb; have n_ := a_ (Aside0.mk (Kd.V_below (Kd.V_elderB (by (with_reducible repeat (first | apply Kd.V_alloc | apply Kd.V_drewN | apply Kd.V_drew)); exact HO0_1.out) gb416 (Nat.le_of_eq hg.symm)) hb)) (a_ (Aside0.mk (Kd.V_below (Kd.V_elderB (by (with_reducible repeat (first | apply Kd.V_alloc | apply Kd.V_drewN | apply Kd.V_drew)); exact HO1_1.out) gb416 (Nat.le_of_eq hg.symm)) hb)) (a_ (bb_ BK415 hb) (a_ (bs_ HB hb) (a_ (Aside0.mk hbox) (a_ (gs_ HB hg) (a_ (gs_ HB hg) (a_ (nl_ BK415 hg) (ng_ BK415 hg)))))))); clear HO0_1 HO1_1 BK415 HB; obtain ⟨HO0_1, HO1_1, BK415, HB, BK416, GW416, GE416, NB415_416, NB416_415⟩ := n_; clear hb hbox hg) | ((with_reducible refine gate_dst (N := 4) rfl ?_); refine bx_ (N := 4) (cs := #[.int .i64 0, .slice none 0 0]) (t := 24) ?_; intro gb417 hg w6 hbox hb; have n_ := a_ (Aside0.mk (Kd.V_below (Kd.V_elderB (by (with_reducible repeat (first | apply Kd.V_alloc | apply Kd.V_drewN | apply Kd.V_drew)); exact HO0_1.out) gb417 (Nat.le_of_eq hg.symm)) hb)) (a_ (Aside0.mk (Kd.V_below (Kd.V_elderB (by (with_reducible repeat (first | apply Kd.V_alloc | apply Kd.V_drewN | apply Kd.V_drew)); exact HO1_1.out) gb417 (Nat.le_of_eq hg.symm)) hb)) (a_ (bb_ BK415 hb) (a_ (bb_ BK416 hb) (a_ (bs_ HB hb) (a_ (Aside0.mk hbox) (a_ (gs_ HB hg) (a_ (gs_ HB hg) (a_ (nl_ BK415 hg) (a_ (ng_ BK415 hg) (a_ (nl_ BK416 hg) (ng_ BK416 hg))))))))))); clear HO0_1 HO1_1 BK415 BK416 HB; obtain ⟨HO0_1, HO1_1, BK415, BK416, HB, BK417, GW417, GE417, NB415_417, NB417_415, NB416_417, NB417_416⟩ := n_; clear hb hbox hg; have hnb7 := NB415_416.out; have hnc7 := NB416_415.out; have hnb8 := NB415_417.out; have hnc8 := NB417_415.out; obtain ⟨hcz9_0, hcz9_1, hfz9_0, hfz9_1⟩ := cz2_ BK415; have hnb10 := NB416_417.out; have hnc10 := NB417_416.out; obtain ⟨hcz11_0, hcz11_1, hfz11_0, hfz11_1⟩ := cz2_ BK416; obtain ⟨hcz12_0, hcz12_1, hfz12_0, hfz12_1⟩ := cz2_ BK417))
    refine bodyPost_ret (results_cell_row rfl _ _ gb417 24 #[.int .i64 a1_0, .slice A1_1 l1_1.length c1_1] (0, 0) _ rfl (bk2_ BK417.out) Try.underlying24 rfl (by kernel_rfl)) rfl ?_
    exact ⟨_, by first | rfl | (simp [errW_none, errW_some] <;> rfl) | (simp [*, errW_none, errW_some] <;> rfl), by (with_reducible repeat (first | apply Kd.V_alloc | apply Kd.V_drewN | apply Kd.V_drew)); exact Kd.V_mono (Kd.V_far (p := ⟨gb417, 1, none⟩) (Kd.V_far (p := ⟨gb417, 0, none⟩) (Kd.V_mono HO1_1.out (fun k_ hk => (⟨hk, hk.2⟩ : _ ∧ k_ ≠ gb417))) (fun _ hk => hk.2) (.int .i64 a1_0)) (fun _ hk => hk.2) (.slice A1_1 l1_1.length c1_1)) (fun _ hk => hk.1.1.1.1), HB_⟩
  rw [if_neg c3] at H
  have c3b0 : ((l0_1.length : Int) == 0) = false := beq_eq_false_iff_ne.mpr c3
  have c3b1 : ((l0_1.length : Int) != 0) = true := bne_iff_ne.mpr c3
  have c3b2 : ¬ (l0_1 = []) := fun h_ => c3 (by rw [h_]; rfl)
  by_cases c13 : (l1_1.length : Int) = 0
  · rw [if_pos c13] at H
    have c13b0 : ((l1_1.length : Int) == 0) = true := beq_iff_eq.mpr c13
    have c13b1 : ((l1_1.length : Int) != 0) = false := bne_eq_false_iff_eq.mpr c13
    clear c13
    simp only [Option.some.injEq, Prod.mk.injEq] at H
    obtain ⟨rfl, rfl⟩ := H
    go_enter Try.func41, Try.ntmps41
    go_wp2_with (first | ((with_reducible refine gate_dst (N := 2) rfl ?_); refine bx_ (N := 2) (cs := #[.int .i64 a0_0, .slice A0_1 l0_1.length c0_1]) (t := 24) ?_; intro gb415 hg w14 hbox hb; have n_ := a_ (Aside0.mk (Kd.V_below (Kd.V_elderB (by (with_reducible repeat (first | apply Kd.V_alloc | apply Kd.V_drewN | apply Kd.V_drew)); exact HO0_1.out) gb415 (Nat.le_of_eq hg.symm)) hb)) (a_ (Aside0.mk (Kd.V_below (Kd.V_elderB (by (with_reducible repeat (first | apply Kd.V_alloc | apply Kd.V_drewN | apply Kd.V_drew)); exact HO1_1.out) gb415 (Nat.le_of_eq hg.symm)) hb)) (a_ (bs_ HB hb) (a_ (Aside0.mk hbox) (a_ (gs_ HB hg) (gs_ HB hg))))); clear HO0_1 HO1_1 HB; obtain ⟨HO0_1, HO1_1, HB, BK415, GW415, GE415⟩ := n_; clear hb hbox hg) | ((with_reducible refine gate_dst (N := 3) rfl ?_); refine bx_ (N := 3) (cs := #[.int .i64 a1_0, .slice A1_1 l1_1.length c1_1]) (t := 24) ?_; intro gb416 hg w15 hbox hb; have n_ := a_ (Aside0.mk (Kd.V_below (Kd.V_elderB (by (with_reducible repeat (first | apply Kd.V_alloc | apply Kd.V_drewN | apply Kd.V_drew)); exact HO0_1.out) gb416 (Nat.le_of_eq hg.symm)) hb)) (a_ (Aside0.mk (Kd.V_below (Kd.V_elderB (by (with_reducible repeat (first | apply Kd.V_alloc | apply Kd.V_drewN | apply Kd.V_drew)); exact HO1_1.out) gb416 (Nat.le_of_eq hg.symm)) hb)) (a_ (bb_ BK415 hb) (a_ (bs_ HB hb) (a_ (Aside0.mk hbox) (a_ (gs_ HB hg) (a_ (gs_ HB hg) (a_ (nl_ BK415 hg) (ng_ BK415 hg)))))))); clear HO0_1 HO1_1 BK415 HB; obtain ⟨HO0_1, HO1_1, BK415, HB, BK416, GW416, GE416, NB415_416, NB416_415⟩ := n_; clear hb hbox hg) | ((with_reducible refine gate_dst (N := 4) rfl ?_); refine bx_ (N := 4) (cs := #[.int .i64 0, .slice none 0 0]) (t := 24) ?_; intro gb417 hg w16 hbox hb; have n_ := a_ (Aside0.mk (Kd.V_below (Kd.V_elderB (by (with_reducible repeat (first | apply Kd.V_alloc | apply Kd.V_drewN | apply Kd.V_drew)); exact HO0_1.out) gb417 (Nat.le_of_eq hg.symm)) hb)) (a_ (Aside0.mk (Kd.V_below (Kd.V_elderB (by (with_reducible repeat (first | apply Kd.V_alloc | apply Kd.V_drewN | apply Kd.V_drew)); exact HO1_1.out) gb417 (Nat.le_of_eq hg.symm)) hb)) (a_ (bb_ BK415 hb) (a_ (bb_ BK416 hb) (a_ (bs_ HB hb) (a_ (Aside0.mk hbox) (a_ (gs_ HB hg) (a_ (gs_ HB hg) (a_ (nl_ BK415 hg) (a_ (ng_ BK415 hg) (a_ (nl_ BK416 hg) (ng_ BK416 hg))))))))))); clear HO0_1 HO1_1 BK415 BK416 HB; obtain ⟨HO0_1, HO1_1, BK415, BK416, HB, BK417, GW417, GE417, NB415_417, NB417_415, NB416_417, NB417_416⟩ := n_; clear hb hbox hg; have hnb17 := NB415_416.out; have hnc17 := NB416_415.out; have hnb18 := NB415_417.out; have hnc18 := NB417_415.out; obtain ⟨hcz19_0, hcz19_1, hfz19_0, hfz19_1⟩ := cz2_ BK415; have hnb20 := NB416_417.out; have hnc20 := NB417_416.out; obtain ⟨hcz21_0, hcz21_1, hfz21_0, hfz21_1⟩ := cz2_ BK416; obtain ⟨hcz22_0, hcz22_1, hfz22_0, hfz22_1⟩ := cz2_ BK417))
    refine bodyPost_ret (results_cell_row rfl _ _ gb417 24 #[.int .i64 a0_0, .slice A0_1 l0_1.length c0_1] (0, 0) _ rfl (bk2_ BK417.out) Try.underlying24 rfl (by kernel_rfl)) rfl ?_
    exact ⟨_, by first | rfl | (simp [errW_none, errW_some] <;> rfl) | (simp [*, errW_none, errW_some] <;> rfl), by (with_reducible repeat (first | apply Kd.V_alloc | apply Kd.V_drewN | apply Kd.V_drew)); exact Kd.V_mono (Kd.V_far (p := ⟨gb417, 1, none⟩) (Kd.V_far (p := ⟨gb417, 0, none⟩) (Kd.V_mono HO0_1.out (fun k_ hk => (⟨hk, hk.2⟩ : _ ∧ k_ ≠ gb417))) (fun _ hk => hk.2) (.int .i64 a0_0)) (fun _ hk => hk.2) (.slice A0_1 l0_1.length c0_1)) (fun _ hk => hk.1.1.1.1), HB_⟩
  rw [if_neg c13] at H
  have c13b0 : ((l1_1.length : Int) == 0) = false := beq_eq_false_iff_ne.mpr c13
  have c13b1 : ((l1_1.length : Int) != 0) = true := bne_iff_ne.mpr c13
  have c13b2 : ¬ (l1_1 = []) := fun h_ => c13 (by rw [h_]; rfl)
  have H' := Aside0.mk H
  clear H
  go_enter Try.func41, Try.ntmps41
  go_wp2_with (first | ((with_reducible refine gate_dst (N := 2) rfl ?_); refine bx_ (N := 2) (cs := #[.int .i64 a0_0, .slice A0_1 l0_1.length c0_1]) (t := 24) ?_; intro gb415 hg w23 hbox hb; have n_ := a_ (Aside0.mk (Kd.V_below (Kd.V_elderB (by (with_reducible repeat (first | apply Kd.V_alloc | apply Kd.V_drewN | apply Kd.V_drew)); exact HO0_1.out) gb415 (Nat.le_of_eq hg.symm)) hb)) (a_ (Aside0.mk (Kd.V_below (Kd.V_elderB (by (with_reducible repeat (first | apply Kd.V_alloc | apply Kd.V_drewN | apply Kd.V_drew)); exact HO1_1.out) gb415 (Nat.le_of_eq hg.symm)) hb)) (a_ (bs_ HB hb) (a_ (Aside0.mk hbox) (a_ (gs_ HB hg) (gs_ HB hg))))); clear HO0_1 HO1_1 HB; obtain ⟨HO0_1, HO1_1, HB, BK415, GW415, GE415⟩ := n_; clear hb hbox hg) | ((with_reducible refine gate_dst (N := 3) rfl ?_); refine bx_ (N := 3) (cs := #[.int .i64 a1_0, .slice A1_1 l1_1.length c1_1]) (t := 24) ?_; intro gb416 hg w24 hbox hb; have n_ := a_ (Aside0.mk (Kd.V_below (Kd.V_elderB (by (with_reducible repeat (first | apply Kd.V_alloc | apply Kd.V_drewN | apply Kd.V_drew)); exact HO0_1.out) gb416 (Nat.le_of_eq hg.symm)) hb)) (a_ (Aside0.mk (Kd.V_below (Kd.V_elderB (by (with_reducible repeat (first | apply Kd.V_alloc | apply Kd.V_drewN | apply Kd.V_drew)); exact HO1_1.out) gb416 (Nat.le_of_eq hg.symm)) hb)) (a_ (bb_ BK415 hb) (a_ (bs_ HB hb) (a_ (Aside0.mk hbox) (a_ (gs_ HB hg) (a_ (gs_ HB hg) (a_ (nl_ BK415 hg) (ng_ BK415 hg)))))))); clear HO0_1 HO1_1 BK415 HB; obtain ⟨HO0_1, HO1_1, BK415, HB, BK416, GW416, GE416, NB415_416, NB416_415⟩ := n_; clear hb hbox hg) | ((with_reducible refine gate_dst (N := 4) rfl ?_); refine bx_ (N := 4) (cs := #[.int .i64 0, .slice none 0 0]) (t := 24) ?_; intro gb417 hg w25 hbox hb; have n_ := a_ (Aside0.mk (Kd.V_below (Kd.V_elderB (by (with_reducible repeat (first | apply Kd.V_alloc | apply Kd.V_drewN | apply Kd.V_drew)); exact HO0_1.out) gb417 (Nat.le_of_eq hg.symm)) hb)) (a_ (Aside0.mk (Kd.V_below (Kd.V_elderB (by (with_reducible repeat (first | apply Kd.V_alloc | apply Kd.V_drewN | apply Kd.V_drew)); exact HO1_1.out) gb417 (Nat.le_of_eq hg.symm)) hb)) (a_ (bb_ BK415 hb) (a_ (bb_ BK416 hb) (a_ (bs_ HB hb) (a_ (Aside0.mk hbox) (a_ (gs_ HB hg) (a_ (gs_ HB hg) (a_ (nl_ BK415 hg) (a_ (ng_ BK415 hg) (a_ (nl_ BK416 hg) (ng_ BK416 hg))))))))))); clear HO0_1 HO1_1 BK415 BK416 HB; obtain ⟨HO0_1, HO1_1, BK415, BK416, HB, BK417, GW417, GE417, NB415_417, NB417_415, NB416_417, NB417_416⟩ := n_; clear hb hbox hg; have hnb26 := NB415_416.out; have hnc26 := NB416_415.out; have hnb27 := NB415_417.out; have hnc27 := NB417_415.out; obtain ⟨hcz28_0, hcz28_1, hfz28_0, hfz28_1⟩ := cz2_ BK415; have hnb29 := NB416_417.out; have hnc29 := NB417_416.out; obtain ⟨hcz30_0, hcz30_1, hfz30_0, hfz30_1⟩ := cz2_ BK416))
  go_loopg [5, 6] k (fun kq v5 v6 w' => ∃ (x5_1 : List Int) (x6_1 : Int), v6 = .int .i64 x6_1 ∧ Aside0 (warrantorref09_Join.l0 kq x5_1 x6_1 a0_0 l0_1 a1_0 l1_1 = some (r1, r2)) ∧ Aside0 (kq ≤ k) ∧ Aside0 (Kd.R (Kd.int .i64) 3 w' w.heap.size (fun k_ => (w.heap.size ≤ k_)) v5 x5_1) ∧ Aside0 (Kd.V (Kd.int .i64) 3 w' w.heap.size (fun k_ => ((P0_1_ k_ ∨ P1_1_ k_) ∨ w.heap.size ≤ k_) ∧ some k_ ≠ (v5 : Value).ownBlock ∧ k_ ≠ gb415 ∧ k_ ≠ gb416 ∧ k_ ≠ gb417) (.slice A0_1 l0_1.length c0_1) l0_1) ∧ Aside0 (Kd.V (Kd.int .i64) 3 w' w.heap.size (fun k_ => ((P0_1_ k_ ∨ P1_1_ k_) ∨ w.heap.size ≤ k_) ∧ some k_ ≠ (v5 : Value).ownBlock ∧ k_ ≠ gb415 ∧ k_ ≠ gb416 ∧ k_ ≠ gb417) (.slice A1_1 l1_1.length c1_1) l1_1) ∧ Aside0 (w'.heap[gb415]? = some (.cells #[.int .i64 a0_0, (.slice A0_1 l0_1.length c0_1)] 24 (0, 0))) ∧ Aside0 (w'.heap[gb416]? = some (.cells #[.int .i64 a1_0, (.slice A1_1 l1_1.length c1_1)] 24 (0, 0))) ∧ Aside0 (w'.heap[gb417]? = some (.cells #[.int .i64 0, (.slice none 0 0)] 24 (0, 0))) ∧ Aside0 (Below w.heap.size w w'))
  case atStart => exact ⟨(([] : List Int)), (0), (by first | rfl | (simp; done) | (simp [*]; done)), H', ⟨Nat.le_refl _⟩, ⟨by first | exact Kd.R_nil _ _ _ _ _ | exact Kd.N_nil _ _ _ _ _ | exact Kd.V_nil _ _ _ _ _ | exact Kd.Q_nil _ _ _ _ _ | exact Kd.S_nil _ _ _ _ _⟩, ⟨by (with_reducible repeat (first | apply Kd.V_alloc | apply Kd.V_drewN | apply Kd.V_drew)); exact Kd.V_mono HO0_1.out (fun _ hk => ⟨hk.1.1.1, ⟨(by simp [Value.ownBlock]), ⟨hk.1.1.2, ⟨hk.1.2, hk.2⟩⟩⟩⟩)⟩, ⟨by (with_reducible repeat (first | apply Kd.V_alloc | apply Kd.V_drewN | apply Kd.V_drew)); exact Kd.V_mono HO1_1.out (fun _ hk => ⟨hk.1.1.1, ⟨(by simp [Value.ownBlock]), ⟨hk.1.1.2, ⟨hk.1.2, hk.2⟩⟩⟩⟩)⟩, ⟨by (with_reducible repeat (first | refine blk_drewN ?_ _ | refine blk_drew ?_ | refine blk_alloc ?_ _)); exact BK415.out⟩, ⟨by (with_reducible repeat (first | refine blk_drewN ?_ _ | refine blk_drew ?_ | refine blk_alloc ?_ _)); exact BK416.out⟩, ⟨by (with_reducible repeat (first | refine blk_drewN ?_ _ | refine blk_drew ?_ | refine blk_alloc ?_ _)); exact BK417.out⟩, ⟨HB_⟩⟩
  case round =>
    clear H'
    try clear c1
    try clear c2
    try clear p2
    try clear c3
    try clear c3b0
    try clear c3b1
    try clear c3b2
    try clear c4
    try clear c7
    try clear c8
    try clear c10
    try clear c13
    try clear c13b0
    try clear c13b1
    try clear c13b2
    try clear c17
    try clear c18
    try clear c20
    try clear c26
    try clear c27
    try clear c29
    try clear hcz11_0
    try clear hcz11_1
    try clear hcz12_0
    try clear hcz12_1
    try clear hcz19_0
    try clear hcz19_1
    try clear hcz21_0
    try clear hcz21_1
    try clear hcz22_0
    try clear hcz22_1
    try clear hcz28_0
    try clear hcz28_1
    try clear hcz30_0
    try clear hcz30_1
    try clear hcz9_0
    try clear hcz9_1
    try clear hfz11_0
    try clear hfz11_1
    try clear hfz12_0
    try clear hfz12_1
    try clear hfz19_0
    try clear hfz19_1
    try clear hfz21_0
    try clear hfz21_1
    try clear hfz22_0
    try clear hfz22_1
    try clear hfz28_0
    try clear hfz28_1
    try clear hfz30_0
    try clear hfz30_1
    try clear hfz9_0
    try clear hfz9_1
    obtain ⟨x5_1, x6_1, rfl, HA, HK1, HO_5, HO_416001, HO_417001, BK415, BK416, BK417, HB⟩ := hrel
    cases gk with
    | zero => exact absurd HA.out (by simp [warrantorref09_Join.l0])
    | succ k1 =>
      have H := HA.out
      clear HA
      simp only [warrantorref09_Join.l0] at H
      by_cases c31 : x6_1 < (l0_1.length : Int)
      rotate_left
      · rw [if_neg c31] at H
        have c31b0 : decide (x6_1 < (l0_1.length : Int)) = false := decide_eq_false c31
        clear c31
        replace H := Option.bind_eq_some_iff.mp H
        obtain ⟨⟨t427, t428⟩, A490, H⟩ := H
        replace H : (some (t427, t428)) = some (r1, r2) := H
        have A49 := Aside0.mk A490
        clear A490
        simp only [Option.some.injEq, Prod.mk.injEq] at H
        obtain ⟨rfl, rfl⟩ := H
        have hnb50 := NB415_416.out
        have hnc50 := NB416_415.out
        have hnb51 := NB415_417.out
        have hnc51 := NB417_415.out
        obtain ⟨hcz52_0, hcz52_1, hfz52_0, hfz52_1⟩ := cz2_ BK415
        obtain ⟨Ao53, co53, eo53⟩ := Kd.R_slice HO_5.out
        subst eo53
        go_wp2_with (first | ((with_reducible refine gate_callee (f := 76) rfl ?_); refine goesL_ (some 49) rfl rfl Try.func76 (by kernel_rfl) rfl #[.int .i64 a0_0, .slice Ao53 x5_1.length co53] rfl MP_ ?_; (with_reducible refine (warrantorref08_Close.calls k1 a0_0 _ _ x5_1 t427 t428 _ ?side1 ?side2 A49.out).mono ?_); (case side1 => repeat (first | exact (Kd.R_reads' HO_5.out).2.2 | (with_reducible refine Kd.C_alloc ?_ _) | (with_reducible refine Kd.C_drewN ?_ _) | (with_reducible refine Kd.C_drew ?_))); (case side2 => exact (Kd.R_reads' HO_5.out).2.1); rintro e w54 ⟨v429, rfl, ho0, hb⟩; refine ⟨_, rfl, ?_⟩; have n_ := a_ (Aside0.mk (Kd.R_elder' (rd_ HO_5.out) (Kd.R_base ho0) hb)) (a_ (Aside0.mk (Kd.V_elder' (by (with_reducible repeat (first | apply Kd.V_alloc | apply Kd.V_drewN | apply Kd.V_drew)); exact HO_416001.out) (Kd.R_base ho0) hb)) (a_ (Aside0.mk (Kd.V_elder' (by (with_reducible repeat (first | apply Kd.V_alloc | apply Kd.V_drewN | apply Kd.V_drew)); exact HO_417001.out) (Kd.R_base ho0) hb)) (a_ (Aside0.mk (Kd.R_lower (Kd.R_new' (Kd.R_newM (M := fun k_ => (w.heap.size ≤ k_)) ho0 (below_size HB_) (fun k_ h_ => h_)) (Kd.R_lt (rd_ HO_5.out))) (below_size HB_))) (a_ (bb_ BK415 hb) (a_ (bb_ BK416 hb) (a_ (bb_ BK417 hb) (bs_ HB hb))))))); clear HO_5 HO_416001 HO_417001 BK415 BK416 BK417 HB; obtain ⟨HO_5, HO_416001, HO_417001, HO430, BK415, BK416, BK417, HB⟩ := n_; (try clear hb); (try clear hb2); (try clear hk); (try clear hi); (try clear ho0); have hnb55 := NB417_416.out; have hnc55 := NB416_417.out; obtain ⟨hcz56_0, hcz56_1, hfz56_0, hfz56_1⟩ := cz2_ BK417; obtain ⟨Ao57, co57, eo57⟩ := Kd.R_slice HO430.out; subst eo57))
        refine bodyPost_ret (results_cell_row rfl _ _ gb417 24 #[.int .i64 t427, .slice Ao57 t428.length co57] (0, 0) _ rfl (bk2_ BK417.out) Try.underlying24 rfl (by kernel_rfl)) rfl ?_
        exact ⟨_, by first | rfl | (simp [errW_none, errW_some] <;> rfl) | (simp [*, errW_none, errW_some] <;> rfl), Kd.V_mono (Kd.R_V (rd_ (Kd.R_mono (Kd.R_far (p := ⟨gb417, 1, none⟩) (Kd.R_far (p := ⟨gb417, 0, none⟩) (Kd.R_types HO430.out BK417.out (by decide)) (fun _ hk => hk.2) (.int .i64 t427)) (fun _ hk => hk.2) (.slice Ao57 t428.length co57)) (fun _ hk => hk.1.1.1)))) (fun k_ hk => by first | exact ⟨(.inr (hk.1)), hk.2⟩ | exact (.inr (hk))), HB_⟩

      rw [if_pos c31] at H
      have c31b0 : decide (x6_1 < (l0_1.length : Int)) = true := decide_eq_true c31
      clear c31
      replace H := yes_ H
      obtain ⟨c32, H⟩ := H
      have c32b0 : decide (0 ≤ x6_1) = true := decide_eq_true c32
      clear c32
      replace H := yes_ H
      obtain ⟨c33, H⟩ := H
      have c33b0 : decide (x6_1 < (l1_1.length : Int)) = true := decide_eq_true c33
      clear c33
      by_cases c34 : (rd l1_1 x6_1) > (rd l0_1 x6_1)
      rotate_left
      · rw [if_neg c34] at H
        have c34b0 : decide ((rd l0_1 x6_1) < (rd l1_1 x6_1)) = false := decide_eq_false c34
        clear c34
        replace H := yes_ H
        obtain ⟨c42, H⟩ := H
        have LMc42 := Aside0.mk c42
        clear c42
        obtain ⟨y424, hy424⟩ : ∃ y_ : List Int, y_ = (x5_1 ++ [rd l0_1 x6_1]) := ⟨_, rfl⟩
        replace H : (warrantorref09_Join.l0 k1 y424 (wrap64 (x6_1 + 1)) a0_0 l0_1 a1_0 l1_1) = some (r1, r2) := by first | (rw [hy424]; with_reducible exact H) | (have H2_ := (Option.bind_some _ _).symm.trans H; rw [hy424]; with_reducible exact H2_) | (have H2_ := (Option.bind_some _ _).symm.trans H; with_reducible exact H2_) | with_reducible exact H | (rw [hy424]; exact H) | exact H
        have Ny424 := Aside0.mk hy424
        clear hy424
        have H' := Aside0.mk H
        clear H
        have hnb43 := NB415_416.out
        have hnc43 := NB416_415.out
        have hnb44 := NB415_417.out
        have hnc44 := NB417_415.out
        obtain ⟨hcz45_0, hcz45_1, hfz45_0, hfz45_1⟩ := cz2_ BK415
        have p418 : 0 ≤ (x6_1 : Int) := of_decide_eq_true (by first | (with_reducible assumption) | assumption)
        have q418 : x6_1 < (l0_1.length : Int) := of_decide_eq_true (by first | (with_reducible assumption) | assumption)
        obtain ⟨ad418, e418, hx418_0⟩ := Kd.at_int (Kd.V_reads' HO_416001.out).2.2 x6_1 p418 q418
        cases e418
        replace p418 := eq_true p418
        replace q418 := eq_true q418
        have hnb46 := NB416_417.out
        have hnc46 := NB417_416.out
        obtain ⟨hcz47_0, hcz47_1, hfz47_0, hfz47_1⟩ := cz2_ BK416
        have p419 : 0 ≤ (x6_1 : Int) := of_decide_eq_true (by first | (with_reducible assumption) | assumption)
        have q419 : x6_1 < (l1_1.length : Int) := of_decide_eq_true (by first | (with_reducible assumption) | assumption)
        obtain ⟨ad419, e419, hx419_0⟩ := Kd.at_int (Kd.V_reads' HO_417001.out).2.2 x6_1 p419 q419
        cases e419
        replace p419 := eq_true p419
        replace q419 := eq_true q419
        go_wp2_with (first | ((with_reducible refine gate_builtin (b := .append) (xs := #[.tmp 42, .tmp 44]) rfl ?_); at_builtin; refine Kd.R_append (Kd.int .i64) (w0 := w) w.heap.size rfl (.tmp 42) (.tmp 44) 22 3 (.int .i64 0) 8 rfl Try.underlying22 info3 rfl (by decide) (by omega) u5 x5_1 (rd l0_1 x6_1) [.int .i64 (rd l0_1 x6_1)] (fun k_ => (w.heap.size ≤ k_)) (fun _ => False) rfl rfl ?aP (fun _ hk => hk.elim) ?aF ?aO ?aB ?aS ?aL ?_; (case aP => exact rfl); (case aB => exact HB_); (case aF => exact (fun k_ hk => (Nat.le_trans (below_size HB_) hk))); (case aO => exact (rd_ HO_5.out)); (case aS => exact (below_size HB_)); (case aL => have := LMc42.out; omega); intro v425 w48 ho hb hg hat; rw [← Ny424.out] at ho; have n_ := a_ (Aside0.mk (Kd.V_afterv (ok := (fun k_ => ((P0_1_ k_ ∨ P1_1_ k_) ∨ w.heap.size ≤ k_) ∧ k_ ≠ gb415 ∧ k_ ≠ gb416 ∧ k_ ≠ gb417)) (by (with_reducible repeat (first | apply Kd.V_alloc | apply Kd.V_drewN | apply Kd.V_drew)); exact Kd.V_mono HO_416001.out (fun _ hk => ⟨⟨hk.1, ⟨hk.2.2.1, ⟨hk.2.2.2.1, hk.2.2.2.2⟩⟩⟩, hk.2.1⟩)) hg hat)) (a_ (Aside0.mk (Kd.V_afterv (ok := (fun k_ => ((P0_1_ k_ ∨ P1_1_ k_) ∨ w.heap.size ≤ k_) ∧ k_ ≠ gb415 ∧ k_ ≠ gb416 ∧ k_ ≠ gb417)) (by (with_reducible repeat (first | apply Kd.V_alloc | apply Kd.V_drewN | apply Kd.V_drew)); exact Kd.V_mono HO_417001.out (fun _ hk => ⟨⟨hk.1, ⟨hk.2.2.1, ⟨hk.2.2.2.1, hk.2.2.2.2⟩⟩⟩, hk.2.1⟩)) hg hat)) (a_ (Aside0.mk (blk_grown (g := gb415) (o := .cells #[.int .i64 a0_0, .slice (some ad418) l0_1.length c0_1] 24 (0, 0)) (bk_ BK415.out) hg (Kd.R_ne HO_5.out BK415.out (by decide)))) (a_ (Aside0.mk (blk_grown (g := gb416) (o := .cells #[.int .i64 a1_0, .slice (some ad419) l1_1.length c1_1] 24 (0, 0)) (bk_ BK416.out) hg (Kd.R_ne HO_5.out BK416.out (by decide)))) (a_ (Aside0.mk (blk_grown (g := gb417) (o := .cells #[.int .i64 0, .slice none 0 0] 24 (0, 0)) (bk_ BK417.out) hg (Kd.R_ne HO_5.out BK417.out (by decide)))) (a_ (Aside0.mk hb) (Aside0.mk ho)))))); clear HO_416001 HO_417001 BK415 BK416 BK417 HB HO_5; obtain ⟨HO_416001, HO_417001, BK415, BK416, BK417, HB, HO426⟩ := n_; clear ho hb hg hat))
        go_roundg k1
        case measure => have := HK1.out; omega
        case rel => exact ⟨(y424), (wrap64 (x6_1 + 1)), (by first | rfl | (simp; done) | (simp [*]; done)), H', ⟨by have := HK1.out; omega⟩, ⟨by (with_reducible repeat (first | apply Kd.R_alloc | apply Kd.R_drewN | apply Kd.R_drew)); exact HO426.out⟩, ⟨by (with_reducible repeat (first | apply Kd.V_alloc | apply Kd.V_drewN | apply Kd.V_drew)); exact Kd.V_mono HO_416001.out (fun _ hk => ⟨hk.1.1, ⟨hk.2, ⟨hk.1.2.1, ⟨hk.1.2.2.1, hk.1.2.2.2⟩⟩⟩⟩)⟩, ⟨by (with_reducible repeat (first | apply Kd.V_alloc | apply Kd.V_drewN | apply Kd.V_drew)); exact Kd.V_mono HO_417001.out (fun _ hk => ⟨hk.1.1, ⟨hk.2, ⟨hk.1.2.1, ⟨hk.1.2.2.1, hk.1.2.2.2⟩⟩⟩⟩)⟩, ⟨by (with_reducible repeat (first | refine blk_drewN ?_ _ | refine blk_drew ?_ | refine blk_alloc ?_ _)); exact BK415.out⟩, ⟨by (with_reducible repeat (first | refine blk_drewN ?_ _ | refine blk_drew ?_ | refine blk_alloc ?_ _)); exact BK416.out⟩, ⟨by (with_reducible repeat (first | refine blk_drewN ?_ _ | refine blk_drew ?_ | refine blk_alloc ?_ _)); exact BK417.out⟩, ⟨HB_⟩⟩
      rw [if_pos c34] at H
      have c34b0 : decide ((rd l0_1 x6_1) < (rd l1_1 x6_1)) = true := decide_eq_true c34
      clear c34
      replace H := yes_ H
      obtain ⟨c35, H⟩ := H
      have LMc35 := Aside0.mk c35
      clear c35
      obtain ⟨y421, hy421⟩ : ∃ y_ : List Int, y_ = (x5_1 ++ [rd l1_1 x6_1]) := ⟨_, rfl⟩
      replace H : (warrantorref09_Join.l0 k1 y421 (wrap64 (x6_1 + 1)) a0_0 l0_1 a1_0 l1_1) = some (r1, r2) := by first | (rw [hy421]; with_reducible exact H) | (have H2_ := (Option.bind_some _ _).symm.trans H; rw [hy421]; with_reducible exact H2_) | (have H2_ := (Option.bind_some _ _).symm.trans H; with_reducible exact H2_) | with_reducible exact H | (rw [hy421]; exact H) | exact H
      have Ny421 := Aside0.mk hy421
      clear hy421
      have H' := Aside0.mk H
      clear H
      have hnb36 := NB415_416.out
      have hnc36 := NB416_415.out
      have hnb37 := NB415_417.out
      have hnc37 := NB417_415.out
      obtain ⟨hcz38_0, hcz38_1, hfz38_0, hfz38_1⟩ := cz2_ BK415
      have p418 : 0 ≤ (x6_1 : Int) := of_decide_eq_true (by first | (with_reducible assumption) | assumption)
      have q418 : x6_1 < (l0_1.length : Int) := of_decide_eq_true (by first | (with_reducible assumption) | assumption)
      obtain ⟨ad418, e418, hx418_0⟩ := Kd.at_int (Kd.V_reads' HO_416001.out).2.2 x6_1 p418 q418
      cases e418
      replace p418 := eq_true p418
      replace q418 := eq_true q418
      have hnb39 := NB416_417.out
      have hnc39 := NB417_416.out
      obtain ⟨hcz40_0, hcz40_1, hfz40_0, hfz40_1⟩ := cz2_ BK416
      have p419 : 0 ≤ (x6_1 : Int) := of_decide_eq_true (by first | (with_reducible assumption) | assumption)
      have q419 : x6_1 < (l1_1.length : Int) := of_decide_eq_true (by first | (with_reducible assumption) | assumption)
      obtain ⟨ad419, e419, hx419_0⟩ := Kd.at_int (Kd.V_reads' HO_417001.out).2.2 x6_1 p419 q419
      cases e419
      replace p419 := eq_true p419
      replace q419 := eq_true q419
      have p420 : 0 ≤ (x6_1 : Int) := of_decide_eq_true (by first | (with_reducible assumption) | assumption)
      have q420 : x6_1 < (l1_1.length : Int) := of_decide_eq_true (by first | (with_reducible assumption) | assumption)
      obtain ⟨ad420, e420, hx420_0⟩ := Kd.at_int (Kd.V_reads' HO_417001.out).2.2 x6_1 p420 q420
      obtain rfl : ad419 = ad420 := (by injection e420)
      replace p420 := eq_true p420
      replace q420 := eq_true q420
      go_wp2_with (first | ((with_reducible refine gate_builtin (b := .append) (xs := #[.tmp 42, .tmp 44]) rfl ?_); at_builtin; refine Kd.R_append (Kd.int .i64) (w0 := w) w.heap.size rfl (.tmp 42) (.tmp 44) 22 3 (.int .i64 0) 8 rfl Try.underlying22 info3 rfl (by decide) (by omega) u5 x5_1 (rd l1_1 x6_1) [.int .i64 (rd l1_1 x6_1)] (fun k_ => (w.heap.size ≤ k_)) (fun _ => False) rfl rfl ?aP (fun _ hk => hk.elim) ?aF ?aO ?aB ?aS ?aL ?_; (case aP => exact rfl); (case aB => exact HB_); (case aF => exact (fun k_ hk => (Nat.le_trans (below_size HB_) hk))); (case aO => exact (rd_ HO_5.out)); (case aS => exact (below_size HB_)); (case aL => have := LMc35.out; omega); intro v422 w41 ho hb hg hat; rw [← Ny421.out] at ho; have n_ := a_ (Aside0.mk (Kd.V_afterv (ok := (fun k_ => ((P0_1_ k_ ∨ P1_1_ k_) ∨ w.heap.size ≤ k_) ∧ k_ ≠ gb415 ∧ k_ ≠ gb416 ∧ k_ ≠ gb417)) (by (with_reducible repeat (first | apply Kd.V_alloc | apply Kd.V_drewN | apply Kd.V_drew)); exact Kd.V_mono HO_416001.out (fun _ hk => ⟨⟨hk.1, ⟨hk.2.2.1, ⟨hk.2.2.2.1, hk.2.2.2.2⟩⟩⟩, hk.2.1⟩)) hg hat)) (a_ (Aside0.mk (Kd.V_afterv (ok := (fun k_ => ((P0_1_ k_ ∨ P1_1_ k_) ∨ w.heap.size ≤ k_) ∧ k_ ≠ gb415 ∧ k_ ≠ gb416 ∧ k_ ≠ gb417)) (by (with_reducible repeat (first | apply Kd.V_alloc | apply Kd.V_drewN | apply Kd.V_drew)); exact Kd.V_mono HO_417001.out (fun _ hk => ⟨⟨hk.1, ⟨hk.2.2.1, ⟨hk.2.2.2.1, hk.2.2.2.2⟩⟩⟩, hk.2.1⟩)) hg hat)) (a_ (Aside0.mk (blk_grown (g := gb415) (o := .cells #[.int .i64 a0_0, .slice (some ad418) l0_1.length c0_1] 24 (0, 0)) (bk_ BK415.out) hg (Kd.R_ne HO_5.out BK415.out (by decide)))) (a_ (Aside0.mk (blk_grown (g := gb416) (o := .cells #[.int .i64 a1_0, .slice (some ad419) l1_1.length c1_1] 24 (0, 0)) (bk_ BK416.out) hg (Kd.R_ne HO_5.out BK416.out (by decide)))) (a_ (Aside0.mk (blk_grown (g := gb417) (o := .cells #[.int .i64 0, .slice none 0 0] 24 (0, 0)) (bk_ BK417.out) hg (Kd.R_ne HO_5.out BK417.out (by decide)))) (a_ (Aside0.mk hb) (Aside0.mk ho)))))); clear HO_416001 HO_417001 BK415 BK416 BK417 HB HO_5; obtain ⟨HO_416001, HO_417001, BK415, BK416, BK417, HB, HO423⟩ := n_; clear ho hb hg hat))
      go_roundg k1
      case measure => have := HK1.out; omega
      case rel => exact ⟨(y421), (wrap64 (x6_1 + 1)), (by first | rfl | (simp; done) | (simp [*]; done)), H', ⟨by have := HK1.out; omega⟩, ⟨by (with_reducible repeat (first | apply Kd.R_alloc | apply Kd.R_drewN | apply Kd.R_drew)); exact HO423.out⟩, ⟨by (with_reducible repeat (first | apply Kd.V_alloc | apply Kd.V_drewN | apply Kd.V_drew)); exact Kd.V_mono HO_416001.out (fun _ hk => ⟨hk.1.1, ⟨hk.2, ⟨hk.1.2.1, ⟨hk.1.2.2.1, hk.1.2.2.2⟩⟩⟩⟩)⟩, ⟨by (with_reducible repeat (first | apply Kd.V_alloc | apply Kd.V_drewN | apply Kd.V_drew)); exact Kd.V_mono HO_417001.out (fun _ hk => ⟨hk.1.1, ⟨hk.2, ⟨hk.1.2.1, ⟨hk.1.2.2.1, hk.1.2.2.2⟩⟩⟩⟩)⟩, ⟨by (with_reducible repeat (first | refine blk_drewN ?_ _ | refine blk_drew ?_ | refine blk_alloc ?_ _)); exact BK415.out⟩, ⟨by (with_reducible repeat (first | refine blk_drewN ?_ _ | refine blk_drew ?_ | refine blk_alloc ?_ _)); exact BK416.out⟩, ⟨by (with_reducible repeat (first | refine blk_drewN ?_ _ | refine blk_drew ?_ | refine blk_alloc ?_ _)); exact BK417.out⟩, ⟨HB_⟩⟩
/-! ### warrantorref09_Widen: function 42 -/
def warrantorref09_Widen.l0 : Nat → List Int → Int → Int → List Int → Int → List Int → Option (Int × List Int)
  | 0, _, _, _, _, _, _ => none
  | k + 1, x5, x6, x432000, x432001, x433000, x433001 => if x6 < (x432001.length : Int) then (if 0 ≤ x6 then (if x6 < (x433001.length : Int) then (if (rd x433001 x6) > (rd x432001 x6) then (if x5.length < 17592186044416 then (warrantorref09_Widen.l0 k (x5 ++ [4398046511104]) (wrap64 (x6 + 1)) x432000 x432001 x433000 x433001) else (none)) else (if x5.length < 17592186044416 then (warrantorref09_Widen.l0 k (x5 ++ [rd x432001 x6]) (wrap64 (x6 + 1)) x432000 x432001 x433000 x433001) else (none))) else (none)) else (none)) else ((warrantorref08_Close.f k x432000 x5).bind fun bt442 => (some (bt442.1, bt442.2)))
def warrantorref09_Widen.f (k : Nat) (a0_0 : Int) (l0_1 : List Int) (a1_0 : Int) (l1_1 : List Int) : Option (Int × List Int) := if (l0_1.length : Int) = 0 then (some (a1_0, l1_1)) else (if (l1_1.length : Int) = 0 then (some (a0_0, l0_1)) else (warrantorref09_Widen.l0 k ([] : List Int) 0 a0_0 l0_1 a1_0 l1_1))
theorem warrantorref09_Widen.mono_l : ∀ k, (∀ y0 y1 y2 y3 y4 y5, LeO (warrantorref09_Widen.l0 k y0 y1 y2 y3 y4 y5) (warrantorref09_Widen.l0 (k + 1) y0 y1 y2 y3 y4 y5))
  | 0 => fun _ _ _ _ _ _ r h => by simp [warrantorref09_Widen.l0] at h
  | k + 1 => by
    have ih0 := warrantorref09_Widen.mono_l k
    · intro y0 y1 y2 y3 y4 y5
      unfold warrantorref09_Widen.l0
      repeat' first
      | (with_reducible exact ih0 _ _ _ _ _ _)
      | (with_reducible exact warrantorref08_Close.mono _ _ _)
      | (with_reducible exact LeO.refl _)
      | (with_reducible exact LeO.none _)
      | (with_reducible refine LeO.ite ?_ ?_)
      | (with_reducible refine LeO.bind ?_ (fun _ => ?_))
      | exact ih0 _ _ _ _ _ _
      | exact warrantorref08_Close.mono _ _ _
      | exact LeO.none _
      | refine LeO.ite ?_ ?_
      | refine LeO.bind ?_ (fun _ => ?_)
theorem warrantorref09_Widen.mono : ∀ a0 a1 a2 a3 k, LeO (warrantorref09_Widen.f k a0 a1 a2 a3) (warrantorref09_Widen.f (k + 1) a0 a1 a2 a3) := by
  intro a0 a1 a2 a3 k
  have ih0 := warrantorref09_Widen.mono_l k
  unfold warrantorref09_Widen.f
  repeat' first
      | (with_reducible exact ih0 _ _ _ _ _ _)
      | (with_reducible exact warrantorref08_Close.mono _ _ _)
      | (with_reducible exact LeO.refl _)
      | (with_reducible exact LeO.none _)
      | (with_reducible refine LeO.ite ?_ ?_)
      | (with_reducible refine LeO.bind ?_ (fun _ => ?_))
      | exact ih0 _ _ _ _ _ _
      | exact warrantorref08_Close.mono _ _ _
      | exact LeO.none _
      | refine LeO.ite ?_ ?_
      | refine LeO.bind ?_ (fun _ => ?_)
set_option maxHeartbeats 8000000 in
set_option maxRecDepth 100000 in
theorem warrantorref09_Widen.calls (k : Nat) (a0_0 : Int) (P0_1_ : Nat → Prop) (A0_1 : Option Addr) (c0_1 : Nat) (l0_1 : List Int) (a1_0 : Int) (P1_1_ : Nat → Prop) (A1_1 : Option Addr) (c1_1 : Nat) (l1_1 : List Int) (r1 : Int) (r2 : List Int) (w : World) (hs0_1 : Kd.V (Kd.int .i64) 3 w w.heap.size (fun k_ => P0_1_ k_) (.slice A0_1 l0_1.length c0_1) l0_1) (hs1_1 : Kd.V (Kd.int .i64) 3 w w.heap.size (fun k_ => P1_1_ k_) (.slice A1_1 l1_1.length c1_1) l1_1) (h : warrantorref09_Widen.f k a0_0 l0_1 a1_0 l1_1 = some (r1, r2)) :
    Calls Try.prog 42 #[.agg #[.int .i64 a0_0, .slice A0_1 l0_1.length c0_1], .agg #[.int .i64 a1_0, .slice A1_1 l1_1.length c1_1]] w fun e w' => ∃ v1_ : Value, e = .returned (.agg #[.int .i64 r1, v1_]) ∧ Kd.V (Kd.int .i64) 3 w' w.heap.size (fun k_ => ((P0_1_ k_ ∨ P1_1_ k_) ∨ w.heap.size ≤ k_)) v1_ r2 ∧ Below w.heap.size w w' := by
  have hu24 := Try.underlying24
  have HO0_1 := Aside0.mk (show Kd.V (Kd.int .i64) 3 w w.heap.size (fun k_ => ((P0_1_ k_ ∨ P1_1_ k_) ∨ w.heap.size ≤ k_)) (.slice A0_1 l0_1.length c0_1) l0_1 from Kd.V_mono hs0_1 (fun k_ hk => .inl (.inl hk)))
  have HO1_1 := Aside0.mk (show Kd.V (Kd.int .i64) 3 w w.heap.size (fun k_ => ((P0_1_ k_ ∨ P1_1_ k_) ∨ w.heap.size ≤ k_)) (.slice A1_1 l1_1.length c1_1) l1_1 from Kd.V_mono hs1_1 (fun k_ hk => .inl (.inr hk)))
  have HB := Aside0.mk (Below.refl w.heap.size w)
  have H : (if (l0_1.length : Int) = 0 then (some (a1_0, l1_1)) else (if (l1_1.length : Int) = 0 then (some (a0_0, l0_1)) else (warrantorref09_Widen.l0 k ([] : List Int) 0 a0_0 l0_1 a1_0 l1_1))) = some (r1, r2) := h
  clear h
  by_cases c3 : (l0_1.length : Int) = 0
  · rw [if_pos c3] at H
    have c3b0 : ((l0_1.length : Int) == 0) = true := beq_iff_eq.mpr c3
    have c3b1 : ((l0_1.length : Int) != 0) = false := bne_eq_false_iff_eq.mpr c3
    clear c3
    simp only [Option.some.injEq, Prod.mk.injEq] at H
    obtain ⟨rfl, rfl⟩ := H
    go_enter Try.func42, Try.ntmps42
    go_wp2_with (first | ((with_reducible refine gate_dst (N := 2) rfl ?_); refine bx_ (N := 2) (cs := #[.int .i64 a0_0, .slice A0_1 l0_1.length c0_1]) (t := 24) ?_; intro gb431 hg w4 hbox hb; have n_ := a_ (Aside0.mk (Kd.V_below (Kd.V_elderB (by (with_reducible repeat (first | apply Kd.V_alloc | apply Kd.V_drewN | apply Kd.V_drew)); exact HO0_1.out) gb431 (Nat.le_of_eq hg.symm)) hb)) (a_ (Aside0.mk (Kd.V_below (Kd.V_elderB (by (with_reducible repeat (first | apply Kd.V_alloc | apply Kd.V_drewN | apply Kd.V_drew)); exact HO1_1.out) gb431 (Nat.le_of_eq hg.symm)) hb)) (a_ (bs_ HB hb) (a_ (Aside0.mk hbox) (a_ (gs_ HB hg) (gs_ HB hg))))); clear HO0_1 HO1_1 HB; obtain ⟨HO0_1, HO1_1, HB, BK431, GW431, GE431⟩ := n_; clear hb hbox hg) | ((with_reducible refine gate_dst (N := 3) rfl ?_); refine bx_ (N := 3) (cs := #[.int .i64 a1_0, .slice A1_1 l1_1.length c1_1]) (t := 24) ?_; intro gb432 hg w5 hbox hb; have n_ := a_ (Aside0.mk (Kd.V_below (Kd.V_elderB (by (with_reducible repeat (first | apply Kd.V_alloc | apply Kd.V_drewN | apply Kd.V_drew)); exact HO0_1.out) gb432 (Nat.le_of_eq hg.symm)) hb)) (a_ (Aside0.mk (Kd.V_below (Kd.V_elderB (by (with_reducible repeat (first | apply Kd.V_alloc | apply Kd.V_drewN | apply Kd.V_drew)); exact HO1_1.out) gb432 (Nat.le_of_eq hg.symm)) hb)) (a_ (bb_ BK431 hb) (a_ (bs_ HB hb) (a_ (Aside0.mk hbox) (a_ (gs_ HB hg) (a_ (gs_ HB hg) (a_ (nl_ BK431 hg) (ng_ BK431 hg)))))))); clear HO0_1 HO1_1 BK431 HB; obtain ⟨HO0_1, HO1_1, BK431, HB, BK432, GW432, GE432, NB431_432, NB432_431⟩ := n_; clear hb hbox hg) | ((with_reducible refine gate_dst (N := 4) rfl ?_); refine bx_ (N := 4) (cs := #[.int .i64 0, .slice none 0 0]) (t := 24) ?_; intro gb433 hg w6 hbox hb; have n_ := a_ (Aside0.mk (Kd.V_below (Kd.V_elderB (by (with_reducible repeat (first | apply Kd.V_alloc | apply Kd.V_drewN | apply Kd.V_drew)); exact HO0_1.out) gb433 (Nat.le_of_eq hg.symm)) hb)) (a_ (Aside0.mk (Kd.V_below (Kd.V_elderB (by (with_reducible repeat (first | apply Kd.V_alloc | apply Kd.V_drewN | apply Kd.V_drew)); exact HO1_1.out) gb433 (Nat.le_of_eq hg.symm)) hb)) (a_ (bb_ BK431 hb) (a_ (bb_ BK432 hb) (a_ (bs_ HB hb) (a_ (Aside0.mk hbox) (a_ (gs_ HB hg) (a_ (gs_ HB hg) (a_ (nl_ BK431 hg) (a_ (ng_ BK431 hg) (a_ (nl_ BK432 hg) (ng_ BK432 hg))))))))))); clear HO0_1 HO1_1 BK431 BK432 HB; obtain ⟨HO0_1, HO1_1, BK431, BK432, HB, BK433, GW433, GE433, NB431_433, NB433_431, NB432_433, NB433_432⟩ := n_; clear hb hbox hg; have hnb7 := NB431_432.out; have hnc7 := NB432_431.out; have hnb8 := NB431_433.out; have hnc8 := NB433_431.out; obtain ⟨hcz9_0, hcz9_1, hfz9_0, hfz9_1⟩ := cz2_ BK431; have hnb10 := NB432_433.out; have hnc10 := NB433_432.out; obtain ⟨hcz11_0, hcz11_1, hfz11_0, hfz11_1⟩ := cz2_ BK432; obtain ⟨hcz12_0, hcz12_1, hfz12_0, hfz12_1⟩ := cz2_ BK433))
    refine bodyPost_ret (results_cell_row rfl _ _ gb433 24 #[.int .i64 a1_0, .slice A1_1 l1_1.length c1_1] (0, 0) _ rfl (bk2_ BK433.out) Try.underlying24 rfl (by kernel_rfl)) rfl ?_
    exact ⟨_, by first | rfl | (simp [errW_none, errW_some] <;> rfl) | (simp [*, errW_none, errW_some] <;> rfl), by (with_reducible repeat (first | apply Kd.V_alloc | apply Kd.V_drewN | apply Kd.V_drew)); exact Kd.V_mono (Kd.V_far (p := ⟨gb433, 1, none⟩) (Kd.V_far (p := ⟨gb433, 0, none⟩) (Kd.V_mono HO1_1.out (fun k_ hk => (⟨hk, hk.2⟩ : _ ∧ k_ ≠ gb433))) (fun _ hk => hk.2) (.int .i64 a1_0)) (fun _ hk => hk.2) (.slice A1_1 l1_1.length c1_1)) (fun _ hk => hk.1.1.1.1), HB_⟩
  rw [if_neg c3] at H
  have c3b0 : ((l0_1.length : Int) == 0) = false := beq_eq_false_iff_ne.mpr c3
  have c3b1 : ((l0_1.length : Int) != 0) = true := bne_iff_ne.mpr c3
  have c3b2 : ¬ (l0_1 = []) := fun h_ => c3 (by rw [h_]; rfl)
  by_cases c13 : (l1_1.length : Int) = 0
  · rw [if_pos c13] at H
    have c13b0 : ((l1_1.length : Int) == 0) = true := beq_iff_eq.mpr c13
    have c13b1 : ((l1_1.length : Int) != 0) = false := bne_eq_false_iff_eq.mpr c13
    clear c13
    simp only [Option.some.injEq, Prod.mk.injEq] at H
    obtain ⟨rfl, rfl⟩ := H
    go_enter Try.func42, Try.ntmps42
    go_wp2_with (first | ((with_reducible refine gate_dst (N := 2) rfl ?_); refine bx_ (N := 2) (cs := #[.int .i64 a0_0, .slice A0_1 l0_1.length c0_1]) (t := 24) ?_; intro gb431 hg w14 hbox hb; have n_ := a_ (Aside0.mk (Kd.V_below (Kd.V_elderB (by (with_reducible repeat (first | apply Kd.V_alloc | apply Kd.V_drewN | apply Kd.V_drew)); exact HO0_1.out) gb431 (Nat.le_of_eq hg.symm)) hb)) (a_ (Aside0.mk (Kd.V_below (Kd.V_elderB (by (with_reducible repeat (first | apply Kd.V_alloc | apply Kd.V_drewN | apply Kd.V_drew)); exact HO1_1.out) gb431 (Nat.le_of_eq hg.symm)) hb)) (a_ (bs_ HB hb) (a_ (Aside0.mk hbox) (a_ (gs_ HB hg) (gs_ HB hg))))); clear HO0_1 HO1_1 HB; obtain ⟨HO0_1, HO1_1, HB, BK431, GW431, GE431⟩ := n_; clear hb hbox hg) | ((with_reducible refine gate_dst (N := 3) rfl ?_); refine bx_ (N := 3) (cs := #[.int .i64 a1_0, .slice A1_1 l1_1.length c1_1]) (t := 24) ?_; intro gb432 hg w15 hbox hb; have n_ := a_ (Aside0.mk (Kd.V_below (Kd.V_elderB (by (with_reducible repeat (first | apply Kd.V_alloc | apply Kd.V_drewN | apply Kd.V_drew)); exact HO0_1.out) gb432 (Nat.le_of_eq hg.symm)) hb)) (a_ (Aside0.mk (Kd.V_below (Kd.V_elderB (by (with_reducible repeat (first | apply Kd.V_alloc | apply Kd.V_drewN | apply Kd.V_drew)); exact HO1_1.out) gb432 (Nat.le_of_eq hg.symm)) hb)) (a_ (bb_ BK431 hb) (a_ (bs_ HB hb) (a_ (Aside0.mk hbox) (a_ (gs_ HB hg) (a_ (gs_ HB hg) (a_ (nl_ BK431 hg) (ng_ BK431 hg)))))))); clear HO0_1 HO1_1 BK431 HB; obtain ⟨HO0_1, HO1_1, BK431, HB, BK432, GW432, GE432, NB431_432, NB432_431⟩ := n_; clear hb hbox hg) | ((with_reducible refine gate_dst (N := 4) rfl ?_); refine bx_ (N := 4) (cs := #[.int .i64 0, .slice none 0 0]) (t := 24) ?_; intro gb433 hg w16 hbox hb; have n_ := a_ (Aside0.mk (Kd.V_below (Kd.V_elderB (by (with_reducible repeat (first | apply Kd.V_alloc | apply Kd.V_drewN | apply Kd.V_drew)); exact HO0_1.out) gb433 (Nat.le_of_eq hg.symm)) hb)) (a_ (Aside0.mk (Kd.V_below (Kd.V_elderB (by (with_reducible repeat (first | apply Kd.V_alloc | apply Kd.V_drewN | apply Kd.V_drew)); exact HO1_1.out) gb433 (Nat.le_of_eq hg.symm)) hb)) (a_ (bb_ BK431 hb) (a_ (bb_ BK432 hb) (a_ (bs_ HB hb) (a_ (Aside0.mk hbox) (a_ (gs_ HB hg) (a_ (gs_ HB hg) (a_ (nl_ BK431 hg) (a_ (ng_ BK431 hg) (a_ (nl_ BK432 hg) (ng_ BK432 hg))))))))))); clear HO0_1 HO1_1 BK431 BK432 HB; obtain ⟨HO0_1, HO1_1, BK431, BK432, HB, BK433, GW433, GE433, NB431_433, NB433_431, NB432_433, NB433_432⟩ := n_; clear hb hbox hg; have hnb17 := NB431_432.out; have hnc17 := NB432_431.out; have hnb18 := NB431_433.out; have hnc18 := NB433_431.out; obtain ⟨hcz19_0, hcz19_1, hfz19_0, hfz19_1⟩ := cz2_ BK431; have hnb20 := NB432_433.out; have hnc20 := NB433_432.out; obtain ⟨hcz21_0, hcz21_1, hfz21_0, hfz21_1⟩ := cz2_ BK432; obtain ⟨hcz22_0, hcz22_1, hfz22_0, hfz22_1⟩ := cz2_ BK433))
    refine bodyPost_ret (results_cell_row rfl _ _ gb433 24 #[.int .i64 a0_0, .slice A0_1 l0_1.length c0_1] (0, 0) _ rfl (bk2_ BK433.out) Try.underlying24 rfl (by kernel_rfl)) rfl ?_
    exact ⟨_, by first | rfl | (simp [errW_none, errW_some] <;> rfl) | (simp [*, errW_none, errW_some] <;> rfl), by (with_reducible repeat (first | apply Kd.V_alloc | apply Kd.V_drewN | apply Kd.V_drew)); exact Kd.V_mono (Kd.V_far (p := ⟨gb433, 1, none⟩) (Kd.V_far (p := ⟨gb433, 0, none⟩) (Kd.V_mono HO0_1.out (fun k_ hk => (⟨hk, hk.2⟩ : _ ∧ k_ ≠ gb433))) (fun _ hk => hk.2) (.int .i64 a0_0)) (fun _ hk => hk.2) (.slice A0_1 l0_1.length c0_1)) (fun _ hk => hk.1.1.1.1), HB_⟩
  rw [if_neg c13] at H
  have c13b0 : ((l1_1.length : Int) == 0) = false := beq_eq_false_iff_ne.mpr c13
  have c13b1 : ((l1_1.length : Int) != 0) = true := bne_iff_ne.mpr c13
  have c13b2 : ¬ (l1_1 = []) := fun h_ => c13 (by rw [h_]; rfl)
  have H' := Aside0.mk H
  clear H
  go_enter Try.func42, Try.ntmps42
  go_wp2_with (first | ((with_reducible refine gate_dst (N := 2) rfl ?_); refine bx_ (N := 2) (cs := #[.int .i64 a0_0, .slice A0_1 l0_1.length c0_1]) (t := 24) ?_; intro gb431 hg w23 hbox hb; have n_ := a_ (Aside0.mk (Kd.V_below (Kd.V_elderB (by (with_reducible repeat (first | apply Kd.V_alloc | apply Kd.V_drewN | apply Kd.V_drew)); exact HO0_1.out) gb431 (Nat.le_of_eq hg.symm)) hb)) (a_ (Aside0.mk (Kd.V_below (Kd.V_elderB (by (with_reducible repeat (first | apply Kd.V_alloc | apply Kd.V_drewN | apply Kd.V_drew)); exact HO1_1.out) gb431 (Nat.le_of_eq hg.symm)) hb)) (a_ (bs_ HB hb) (a_ (Aside0.mk hbox) (a_ (gs_ HB hg) (gs_ HB hg))))); clear HO0_1 HO1_1 HB; obtain ⟨HO0_1, HO1_1, HB, BK431, GW431, GE431⟩ := n_; clear hb hbox hg) | ((with_reducible refine gate_dst (N := 3) rfl ?_); refine bx_ (N := 3) (cs := #[.int .i64 a1_0, .slice A1_1 l1_1.length c1_1]) (t := 24) ?_; intro gb432 hg w24 hbox hb; have n_ := a_ (Aside0.mk (Kd.V_below (Kd.V_elderB (by (with_reducible repeat (first | apply Kd.V_alloc | apply Kd.V_drewN | apply Kd.V_drew)); exact HO0_1.out) gb432 (Nat.le_of_eq hg.symm)) hb)) (a_ (Aside0.mk (Kd.V_below (Kd.V_elderB (by (with_reducible repeat (first | apply Kd.V_alloc | apply Kd.V_drewN | apply Kd.V_drew)); exact HO1_1.out) gb432 (Nat.le_of_eq hg.symm)) hb)) (a_ (bb_ BK431 hb) (a_ (bs_ HB hb) (a_ (Aside0.mk hbox) (a_ (gs_ HB hg) (a_ (gs_ HB hg) (a_ (nl_ BK431 hg) (ng_ BK431 hg)))))))); clear HO0_1 HO1_1 BK431 HB; obtain ⟨HO0_1, HO1_1, BK431, HB, BK432, GW432, GE432, NB431_432, NB432_431⟩ := n_; clear hb hbox hg) | ((with_reducible refine gate_dst (N := 4) rfl ?_); refine bx_ (N := 4) (cs := #[.int .i64 0, .slice none 0 0]) (t := 24) ?_; intro gb433 hg w25 hbox hb; have n_ := a_ (Aside0.mk (Kd.V_below (Kd.V_elderB (by (with_reducible repeat (first | apply Kd.V_alloc | apply Kd.V_drewN | apply Kd.V_drew)); exact HO0_1.out) gb433 (Nat.le_of_eq hg.symm)) hb)) (a_ (Aside0.mk (Kd.V_below (Kd.V_elderB (by (with_reducible repeat (first | apply Kd.V_alloc | apply Kd.V_drewN | apply Kd.V_drew)); exact HO1_1.out) gb433 (Nat.le_of_eq hg.symm)) hb)) (a_ (bb_ BK431 hb) (a_ (bb_ BK432 hb) (a_ (bs_ HB hb) (a_ (Aside0.mk hbox) (a_ (gs_ HB hg) (a_ (gs_ HB hg) (a_ (nl_ BK431 hg) (a_ (ng_ BK431 hg) (a_ (nl_ BK432 hg) (ng_ BK432 hg))))))))))); clear HO0_1 HO1_1 BK431 BK432 HB; obtain ⟨HO0_1, HO1_1, BK431, BK432, HB, BK433, GW433, GE433, NB431_433, NB433_431, NB432_433, NB433_432⟩ := n_; clear hb hbox hg; have hnb26 := NB431_432.out; have hnc26 := NB432_431.out; have hnb27 := NB431_433.out; have hnc27 := NB433_431.out; obtain ⟨hcz28_0, hcz28_1, hfz28_0, hfz28_1⟩ := cz2_ BK431; have hnb29 := NB432_433.out; have hnc29 := NB433_432.out; obtain ⟨hcz30_0, hcz30_1, hfz30_0, hfz30_1⟩ := cz2_ BK432))
  go_loopg [5, 6] k (fun kq v5 v6 w' => ∃ (x5_1 : List Int) (x6_1 : Int), v6 = .int .i64 x6_1 ∧ Aside0 (warrantorref09_Widen.l0 kq x5_1 x6_1 a0_0 l0_1 a1_0 l1_1 = some (r1, r2)) ∧ Aside0 (kq ≤ k) ∧ Aside0 (Kd.R (Kd.int .i64) 3 w' w.heap.size (fun k_ => (w.heap.size ≤ k_)) v5 x5_1) ∧ Aside0 (Kd.V (Kd.int .i64) 3 w' w.heap.size (fun k_ => ((P0_1_ k_ ∨ P1_1_ k_) ∨ w.heap.size ≤ k_) ∧ some k_ ≠ (v5 : Value).ownBlock ∧ k_ ≠ gb431 ∧ k_ ≠ gb432 ∧ k_ ≠ gb433) (.slice A0_1 l0_1.length c0_1) l0_1) ∧ Aside0 (Kd.V (Kd.int .i64) 3 w' w.heap.size (fun k_ => ((P0_1_ k_ ∨ P1_1_ k_) ∨ w.heap.size ≤ k_) ∧ some k_ ≠ (v5 : Value).ownBlock ∧ k_ ≠ gb431 ∧ k_ ≠ gb432 ∧ k_ ≠ gb433) (.slice A1_1 l1_1.length c1_1) l1_1) ∧ Aside0 (w'.heap[gb431]? = some (.cells #[.int .i64 a0_0, (.slice A0_1 l0_1.length c0_1)] 24 (0, 0))) ∧ Aside0 (w'.heap[gb432]? = some (.cells #[.int .i64 a1_0, (.slice A1_1 l1_1.length c1_1)] 24 (0, 0))) ∧ Aside0 (w'.heap[gb433]? = some (.cells #[.int .i64 0, (.slice none 0 0)] 24 (0, 0))) ∧ Aside0 (Below w.heap.size w w'))
  case atStart => exact ⟨(([] : List Int)), (0), (by first | rfl | (simp; done) | (simp [*]; done)), H', ⟨Nat.le_refl _⟩, ⟨by first | exact Kd.R_nil _ _ _ _ _ | exact Kd.N_nil _ _ _ _ _ | exact Kd.V_nil _ _ _ _ _ | exact Kd.Q_nil _ _ _ _ _ | exact Kd.S_nil _ _ _ _ _⟩, ⟨by (with_reducible repeat (first | apply Kd.V_alloc | apply Kd.V_drewN | apply Kd.V_drew)); exact Kd.V_mono HO0_1.out (fun _ hk => ⟨hk.1.1.1, ⟨(by simp [Value.ownBlock]), ⟨hk.1.1.2, ⟨hk.1.2, hk.2⟩⟩⟩⟩)⟩, ⟨by (with_reducible repeat (first | apply Kd.V_alloc | apply Kd.V_drewN | apply Kd.V_drew)); exact Kd.V_mono HO1_1.out (fun _ hk => ⟨hk.1.1.1, ⟨(by simp [Value.ownBlock]), ⟨hk.1.1.2, ⟨hk.1.2, hk.2⟩⟩⟩⟩)⟩, ⟨by (with_reducible repeat (first | refine blk_drewN ?_ _ | refine blk_drew ?_ | refine blk_alloc ?_ _)); exact BK431.out⟩, ⟨by (with_reducible repeat (first | refine blk_drewN ?_ _ | refine blk_drew ?_ | refine blk_alloc ?_ _)); exact BK432.out⟩, ⟨by (with_reducible repeat (first | refine blk_drewN ?_ _ | refine blk_drew ?_ | refine blk_alloc ?_ _)); exact BK433.out⟩, ⟨HB_⟩⟩
  case round =>
    clear H'
    try clear c1
    try clear c2
    try clear p2
    try clear c3
    try clear c3b0
    try clear c3b1
    try clear c3b2
    try clear c4
    try clear c7
    try clear c8
    try clear c10
    try clear c13
    try clear c13b0
    try clear c13b1
    try clear c13b2
    try clear c17
    try clear c18
    try clear c20
    try clear c26
    try clear c27
    try clear c29
    try clear hcz11_0
    try clear hcz11_1
    try clear hcz12_0
    try clear hcz12_1
    try clear hcz19_0
    try clear hcz19_1
    try clear hcz21_0
    try clear hcz21_1
    try clear hcz22_0
    try clear hcz22_1
    try clear hcz28_0
    try clear hcz28_1
    try clear hcz30_0
    try clear hcz30_1
    try clear hcz9_0
    try clear hcz9_1
    try clear hfz11_0
    try clear hfz11_1
    try clear hfz12_0
    try clear hfz12_1
    try clear hfz19_0
    try clear hfz19_1
    try clear hfz21_0
    try clear hfz21_1
    try clear hfz22_0
    try clear hfz22_1
    try clear hfz28_0
    try clear hfz28_1
    try clear hfz30_0
    try clear hfz30_1
    try clear hfz9_0
    try clear hfz9_1
    obtain ⟨x5_1, x6_1, rfl, HA, HK1, HO_5, HO_432001, HO_433001, BK431, BK432, BK433, HB⟩ := hrel
    cases gk with
    | zero => exact absurd HA.out (by simp [warrantorref09_Widen.l0])
    | succ k1 =>
      have H := HA.out
      clear HA
      simp only [warrantorref09_Widen.l0] at H
      by_cases c31 : x6_1 < (l0_1.length : Int)
      rotate_left
      · rw [if_neg c31] at H
        have c31b0 : decide (x6_1 < (l0_1.length : Int)) = false := decide_eq_false c31
        clear c31
        replace H := Option.bind_eq_some_iff.mp H
        obtain ⟨⟨t442, t443⟩, A490, H⟩ := H
        replace H : (some (t442, t443)) = some (r1, r2) := H
        have A49 := Aside0.mk A490
        clear A490
        simp only [Option.some.injEq, Prod.mk.injEq] at H
        obtain ⟨rfl, rfl⟩ := H
        have hnb50 := NB431_432.out
        have hnc50 := NB432_431.out
        have hnb51 := NB431_433.out
        have hnc51 := NB433_431.out
        obtain ⟨hcz52_0, hcz52_1, hfz52_0, hfz52_1⟩ := cz2_ BK431
        obtain ⟨Ao53, co53, eo53⟩ := Kd.R_slice HO_5.out
        subst eo53
        go_wp2_with (first | ((with_reducible refine gate_callee (f := 76) rfl ?_); refine goesL_ (some 44) rfl rfl Try.func76 (by kernel_rfl) rfl #[.int .i64 a0_0, .slice Ao53 x5_1.length co53] rfl MP_ ?_; (with_reducible refine (warrantorref08_Close.calls k1 a0_0 _ _ x5_1 t442 t443 _ ?side1 ?side2 A49.out).mono ?_); (case side1 => repeat (first | exact (Kd.R_reads' HO_5.out).2.2 | (with_reducible refine Kd.C_alloc ?_ _) | (with_reducible refine Kd.C_drewN ?_ _) | (with_reducible refine Kd.C_drew ?_))); (case side2 => exact (Kd.R_reads' HO_5.out).2.1); rintro e w54 ⟨v444, rfl, ho0, hb⟩; refine ⟨_, rfl, ?_⟩; have n_ := a_ (Aside0.mk (Kd.R_elder' (rd_ HO_5.out) (Kd.R_base ho0) hb)) (a_ (Aside0.mk (Kd.V_elder' (by (with_reducible repeat (first | apply Kd.V_alloc | apply Kd.V_drewN | apply Kd.V_drew)); exact HO_432001.out) (Kd.R_base ho0) hb)) (a_ (Aside0.mk (Kd.V_elder' (by (with_reducible repeat (first | apply Kd.V_alloc | apply Kd.V_drewN | apply Kd.V_drew)); exact HO_433001.out) (Kd.R_base ho0) hb)) (a_ (Aside0.mk (Kd.R_lower (Kd.R_new' (Kd.R_newM (M := fun k_ => (w.heap.size ≤ k_)) ho0 (below_size HB_) (fun k_ h_ => h_)) (Kd.R_lt (rd_ HO_5.out))) (below_size HB_))) (a_ (bb_ BK431 hb) (a_ (bb_ BK432 hb) (a_ (bb_ BK433 hb) (bs_ HB hb))))))); clear HO_5 HO_432001 HO_433001 BK431 BK432 BK433 HB; obtain ⟨HO_5, HO_432001, HO_433001, HO445, BK431, BK432, BK433, HB⟩ := n_; (try clear hb); (try clear hb2); (try clear hk); (try clear hi); (try clear ho0); have hnb55 := NB433_432.out; have hnc55 := NB432_433.out; obtain ⟨hcz56_0, hcz56_1, hfz56_0, hfz56_1⟩ := cz2_ BK433; obtain ⟨Ao57, co57, eo57⟩ := Kd.R_slice HO445.out; subst eo57))
        refine bodyPost_ret (results_cell_row rfl _ _ gb433 24 #[.int .i64 t442, .slice Ao57 t443.length co57] (0, 0) _ rfl (bk2_ BK433.out) Try.underlying24 rfl (by kernel_rfl)) rfl ?_
        exact ⟨_, by first | rfl | (simp [errW_none, errW_some] <;> rfl) | (simp [*, errW_none, errW_some] <;> rfl), Kd.V_mono (Kd.R_V (rd_ (Kd.R_mono (Kd.R_far (p := ⟨gb433, 1, none⟩) (Kd.R_far (p := ⟨gb433, 0, none⟩) (Kd.R_types HO445.out BK433.out (by decide)) (fun _ hk => hk.2) (.int .i64 t442)) (fun _ hk => hk.2) (.slice Ao57 t443.length co57)) (fun _ hk => hk.1.1.1)))) (fun k_ hk => by first | exact ⟨(.inr (hk.1)), hk.2⟩ | exact (.inr (hk))), HB_⟩

      rw [if_pos c31] at H
      have c31b0 : decide (x6_1 < (l0_1.length : Int)) = true := decide_eq_true c31
      clear c31
      replace H := yes_ H
      obtain ⟨c32, H⟩ := H
      have c32b0 : decide (0 ≤ x6_1) = true := decide_eq_true c32
      clear c32
      replace H := yes_ H
      obtain ⟨c33, H⟩ := H
      have c33b0 : decide (x6_1 < (l1_1.length : Int)) = true := decide_eq_true c33
      clear c33
      by_cases c34 : (rd l1_1 x6_1) > (rd l0_1 x6_1)
      rotate_left
      · rw [if_neg c34] at H
        have c34b0 : decide ((rd l0_1 x6_1) < (rd l1_1 x6_1)) = false := decide_eq_false c34
        clear c34
        replace H := yes_ H
        obtain ⟨c42, H⟩ := H
        have LMc42 := Aside0.mk c42
        clear c42
        obtain ⟨y439, hy439⟩ : ∃ y_ : List Int, y_ = (x5_1 ++ [rd l0_1 x6_1]) := ⟨_, rfl⟩
        replace H : (warrantorref09_Widen.l0 k1 y439 (wrap64 (x6_1 + 1)) a0_0 l0_1 a1_0 l1_1) = some (r1, r2) := by first | (rw [hy439]; with_reducible exact H) | (have H2_ := (Option.bind_some _ _).symm.trans H; rw [hy439]; with_reducible exact H2_) | (have H2_ := (Option.bind_some _ _).symm.trans H; with_reducible exact H2_) | with_reducible exact H | (rw [hy439]; exact H) | exact H
        have Ny439 := Aside0.mk hy439
        clear hy439
        have H' := Aside0.mk H
        clear H
        have hnb43 := NB431_432.out
        have hnc43 := NB432_431.out
        have hnb44 := NB431_433.out
        have hnc44 := NB433_431.out
        obtain ⟨hcz45_0, hcz45_1, hfz45_0, hfz45_1⟩ := cz2_ BK431
        have p434 : 0 ≤ (x6_1 : Int) := of_decide_eq_true (by first | (with_reducible assumption) | assumption)
        have q434 : x6_1 < (l0_1.length : Int) := of_decide_eq_true (by first | (with_reducible assumption) | assumption)
        obtain ⟨ad434, e434, hx434_0⟩ := Kd.at_int (Kd.V_reads' HO_432001.out).2.2 x6_1 p434 q434
        cases e434
        replace p434 := eq_true p434
        replace q434 := eq_true q434
        have hnb46 := NB432_433.out
        have hnc46 := NB433_432.out
        obtain ⟨hcz47_0, hcz47_1, hfz47_0, hfz47_1⟩ := cz2_ BK432
        have p435 : 0 ≤ (x6_1 : Int) := of_decide_eq_true (by first | (with_reducible assumption) | assumption)
        have q435 : x6_1 < (l1_1.length : Int) := of_decide_eq_true (by first | (with_reducible assumption) | assumption)
        obtain ⟨ad435, e435, hx435_0⟩ := Kd.at_int (Kd.V_reads' HO_433001.out).2.2 x6_1 p435 q435
        cases e435
        replace p435 := eq_true p435
        replace q435 := eq_true q435
        go_wp2_with (first | ((with_reducible refine gate_builtin (b := .append) (xs := #[.tmp 37, .tmp 39]) rfl ?_); at_builtin; refine Kd.R_append (Kd.int .i64) (w0 := w) w.heap.size rfl (.tmp 37) (.tmp 39) 22 3 (.int .i64 0) 8 rfl Try.underlying22 info3 rfl (by decide) (by omega) u5 x5_1 (rd l0_1 x6_1) [.int .i64 (rd l0_1 x6_1)] (fun k_ => (w.heap.size ≤ k_)) (fun _ => False) rfl rfl ?aP (fun _ hk => hk.elim) ?aF ?aO ?aB ?aS ?aL ?_; (case aP => exact rfl); (case aB => exact HB_); (case aF => exact (fun k_ hk => (Nat.le_trans (below_size HB_) hk))); (case aO => exact (rd_ HO_5.out)); (case aS => exact (below_size HB_)); (case aL => have := LMc42.out; omega); intro v440 w48 ho hb hg hat; rw [← Ny439.out] at ho; have n_ := a_ (Aside0.mk (Kd.V_afterv (ok := (fun k_ => ((P0_1_ k_ ∨ P1_1_ k_) ∨ w.heap.size ≤ k_) ∧ k_ ≠ gb431 ∧ k_ ≠ gb432 ∧ k_ ≠ gb433)) (by (with_reducible repeat (first | apply Kd.V_alloc | apply Kd.V_drewN | apply Kd.V_drew)); exact Kd.V_mono HO_432001.out (fun _ hk => ⟨⟨hk.1, ⟨hk.2.2.1, ⟨hk.2.2.2.1, hk.2.2.2.2⟩⟩⟩, hk.2.1⟩)) hg hat)) (a_ (Aside0.mk (Kd.V_afterv (ok := (fun k_ => ((P0_1_ k_ ∨ P1_1_ k_) ∨ w.heap.size ≤ k_) ∧ k_ ≠ gb431 ∧ k_ ≠ gb432 ∧ k_ ≠ gb433)) (by (with_reducible repeat (first | apply Kd.V_alloc | apply Kd.V_drewN | apply Kd.V_drew)); exact Kd.V_mono HO_433001.out (fun _ hk => ⟨⟨hk.1, ⟨hk.2.2.1, ⟨hk.2.2.2.1, hk.2.2.2.2⟩⟩⟩, hk.2.1⟩)) hg hat)) (a_ (Aside0.mk (blk_grown (g := gb431) (o := .cells #[.int .i64 a0_0, .slice (some ad434) l0_1.length c0_1] 24 (0, 0)) (bk_ BK431.out) hg (Kd.R_ne HO_5.out BK431.out (by decide)))) (a_ (Aside0.mk (blk_grown (g := gb432) (o := .cells #[.int .i64 a1_0, .slice (some ad435) l1_1.length c1_1] 24 (0, 0)) (bk_ BK432.out) hg (Kd.R_ne HO_5.out BK432.out (by decide)))) (a_ (Aside0.mk (blk_grown (g := gb433) (o := .cells #[.int .i64 0, .slice none 0 0] 24 (0, 0)) (bk_ BK433.out) hg (Kd.R_ne HO_5.out BK433.out (by decide)))) (a_ (Aside0.mk hb) (Aside0.mk ho)))))); clear HO_432001 HO_433001 BK431 BK432 BK433 HB HO_5; obtain ⟨HO_432001, HO_433001, BK431, BK432, BK433, HB, HO441⟩ := n_; clear ho hb hg hat))
        go_roundg k1
        case measure => have := HK1.out; omega
        case rel => exact ⟨(y439), (wrap64 (x6_1 + 1)), (by first | rfl | (simp; done) | (simp [*]; done)), H', ⟨by have := HK1.out; omega⟩, ⟨by (with_reducible repeat (first | apply Kd.R_alloc | apply Kd.R_drewN | apply Kd.R_drew)); exact HO441.out⟩, ⟨by (with_reducible repeat (first | apply Kd.V_alloc | apply Kd.V_drewN | apply Kd.V_drew)); exact Kd.V_mono HO_432001.out (fun _ hk => ⟨hk.1.1, ⟨hk.2, ⟨hk.1.2.1, ⟨hk.1.2.2.1, hk.1.2.2.2⟩⟩⟩⟩)⟩, ⟨by (with_reducible repeat (first | apply Kd.V_alloc | apply Kd.V_drewN | apply Kd.V_drew)); exact Kd.V_mono HO_433001.out (fun _ hk => ⟨hk.1.1, ⟨hk.2, ⟨hk.1.2.1, ⟨hk.1.2.2.1, hk.1.2.2.2⟩⟩⟩⟩)⟩, ⟨by (with_reducible repeat (first | refine blk_drewN ?_ _ | refine blk_drew ?_ | refine blk_alloc ?_ _)); exact BK431.out⟩, ⟨by (with_reducible repeat (first | refine blk_drewN ?_ _ | refine blk_drew ?_ | refine blk_alloc ?_ _)); exact BK432.out⟩, ⟨by (with_reducible repeat (first | refine blk_drewN ?_ _ | refine blk_drew ?_ | refine blk_alloc ?_ _)); exact BK433.out⟩, ⟨HB_⟩⟩
      rw [if_pos c34] at H
      have c34b0 : decide ((rd l0_1 x6_1) < (rd l1_1 x6_1)) = true := decide_eq_true c34
      clear c34
      replace H := yes_ H
      obtain ⟨c35, H⟩ := H
      have LMc35 := Aside0.mk c35
      clear c35
      obtain ⟨y436, hy436⟩ : ∃ y_ : List Int, y_ = (x5_1 ++ [4398046511104]) := ⟨_, rfl⟩
      replace H : (warrantorref09_Widen.l0 k1 y436 (wrap64 (x6_1 + 1)) a0_0 l0_1 a1_0 l1_1) = some (r1, r2) := by first | (rw [hy436]; with_reducible exact H) | (have H2_ := (Option.bind_some _ _).symm.trans H; rw [hy436]; with_reducible exact H2_) | (have H2_ := (Option.bind_some _ _).symm.trans H; with_reducible exact H2_) | with_reducible exact H | (rw [hy436]; exact H) | exact H
      have Ny436 := Aside0.mk hy436
      clear hy436
      have H' := Aside0.mk H
      clear H
      have hnb36 := NB431_432.out
      have hnc36 := NB432_431.out
      have hnb37 := NB431_433.out
      have hnc37 := NB433_431.out
      obtain ⟨hcz38_0, hcz38_1, hfz38_0, hfz38_1⟩ := cz2_ BK431
      have p434 : 0 ≤ (x6_1 : Int) := of_decide_eq_true (by first | (with_reducible assumption) | assumption)
      have q434 : x6_1 < (l0_1.length : Int) := of_decide_eq_true (by first | (with_reducible assumption) | assumption)
      obtain ⟨ad434, e434, hx434_0⟩ := Kd.at_int (Kd.V_reads' HO_432001.out).2.2 x6_1 p434 q434
      cases e434
      replace p434 := eq_true p434
      replace q434 := eq_true q434
      have hnb39 := NB432_433.out
      have hnc39 := NB433_432.out
      obtain ⟨hcz40_0, hcz40_1, hfz40_0, hfz40_1⟩ := cz2_ BK432
      have p435 : 0 ≤ (x6_1 : Int) := of_decide_eq_true (by first | (with_reducible assumption) | assumption)
      have q435 : x6_1 < (l1_1.length : Int) := of_decide_eq_true (by first | (with_reducible assumption) | assumption)
      obtain ⟨ad435, e435, hx435_0⟩ := Kd.at_int (Kd.V_reads' HO_433001.out).2.2 x6_1 p435 q435
      cases e435
      replace p435 := eq_true p435
      replace q435 := eq_true q435
      go_wp2_with (first | ((with_reducible refine gate_builtin (b := .append) (xs := #[.tmp 37, .tmp 39]) rfl ?_); at_builtin; refine Kd.R_append (Kd.int .i64) (w0 := w) w.heap.size rfl (.tmp 37) (.tmp 39) 22 3 (.int .i64 0) 8 rfl Try.underlying22 info3 rfl (by decide) (by omega) u5 x5_1 4398046511104 [.int .i64 4398046511104] (fun k_ => (w.heap.size ≤ k_)) (fun _ => False) rfl rfl ?aP (fun _ hk => hk.elim) ?aF ?aO ?aB ?aS ?aL ?_; (case aP => exact rfl); (case aB => exact HB_); (case aF => exact (fun k_ hk => (Nat.le_trans (below_size HB_) hk))); (case aO => exact (rd_ HO_5.out)); (case aS => exact (below_size HB_)); (case aL => have := LMc35.out; omega); intro v437 w41 ho hb hg hat; rw [← Ny436.out] at ho; have n_ := a_ (Aside0.mk (Kd.V_afterv (ok := (fun k_ => ((P0_1_ k_ ∨ P1_1_ k_) ∨ w.heap.size ≤ k_) ∧ k_ ≠ gb431 ∧ k_ ≠ gb432 ∧ k_ ≠ gb433)) (by (with_reducible repeat (first | apply Kd.V_alloc | apply Kd.V_drewN | apply Kd.V_drew)); exact Kd.V_mono HO_432001.out (fun _ hk => ⟨⟨hk.1, ⟨hk.2.2.1, ⟨hk.2.2.2.1, hk.2.2.2.2⟩⟩⟩, hk.2.1⟩)) hg hat)) (a_ (Aside0.mk (Kd.V_afterv (ok := (fun k_ => ((P0_1_ k_ ∨ P1_1_ k_) ∨ w.heap.size ≤ k_) ∧ k_ ≠ gb431 ∧ k_ ≠ gb432 ∧ k_ ≠ gb433)) (by (with_reducible repeat (first | apply Kd.V_alloc | apply Kd.V_drewN | apply Kd.V_drew)); exact Kd.V_mono HO_433001.out (fun _ hk => ⟨⟨hk.1, ⟨hk.2.2.1, ⟨hk.2.2.2.1, hk.2.2.2.2⟩⟩⟩, hk.2.1⟩)) hg hat)) (a_ (Aside0.mk (blk_grown (g := gb431) (o := .cells #[.int .i64 a0_0, .slice (some ad434) l0_1.length c0_1] 24 (0, 0)) (bk_ BK431.out) hg (Kd.R_ne HO_5.out BK431.out (by decide)))) (a_ (Aside0.mk (blk_grown (g := gb432) (o := .cells #[.int .i64 a1_0, .slice (some ad435) l1_1.length c1_1] 24 (0, 0)) (bk_ BK432.out) hg (Kd.R_ne HO_5.out BK432.out (by decide)))) (a_ (Aside0.mk (blk_grown (g := gb433) (o := .cells #[.int .i64 0, .slice none 0 0] 24 (0, 0)) (bk_ BK433.out) hg (Kd.R_ne HO_5.out BK433.out (by decide)))) (a_ (Aside0.mk hb) (Aside0.mk ho)))))); clear HO_432001 HO_433001 BK431 BK432 BK433 HB HO_5; obtain ⟨HO_432001, HO_433001, BK431, BK432, BK433, HB, HO438⟩ := n_; clear ho hb hg hat))
      go_roundg k1
      case measure => have := HK1.out; omega
      case rel => exact ⟨(y436), (wrap64 (x6_1 + 1)), (by first | rfl | (simp; done) | (simp [*]; done)), H', ⟨by have := HK1.out; omega⟩, ⟨by (with_reducible repeat (first | apply Kd.R_alloc | apply Kd.R_drewN | apply Kd.R_drew)); exact HO438.out⟩, ⟨by (with_reducible repeat (first | apply Kd.V_alloc | apply Kd.V_drewN | apply Kd.V_drew)); exact Kd.V_mono HO_432001.out (fun _ hk => ⟨hk.1.1, ⟨hk.2, ⟨hk.1.2.1, ⟨hk.1.2.2.1, hk.1.2.2.2⟩⟩⟩⟩)⟩, ⟨by (with_reducible repeat (first | apply Kd.V_alloc | apply Kd.V_drewN | apply Kd.V_drew)); exact Kd.V_mono HO_433001.out (fun _ hk => ⟨hk.1.1, ⟨hk.2, ⟨hk.1.2.1, ⟨hk.1.2.2.1, hk.1.2.2.2⟩⟩⟩⟩)⟩, ⟨by (with_reducible repeat (first | refine blk_drewN ?_ _ | refine blk_drew ?_ | refine blk_alloc ?_ _)); exact BK431.out⟩, ⟨by (with_reducible repeat (first | refine blk_drewN ?_ _ | refine blk_drew ?_ | refine blk_alloc ?_ _)); exact BK432.out⟩, ⟨by (with_reducible repeat (first | refine blk_drewN ?_ _ | refine blk_drew ?_ | refine blk_alloc ?_ _)); exact BK433.out⟩, ⟨HB_⟩⟩
end Go.Proofs.Ytgeemdpflcefkaa.Z
