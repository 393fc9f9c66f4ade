-- WRITTEN BY this session's program wip/ext.py, in print.py's manner
import Derived.Test.YtgeemdpflcefkaaYx0
import Derived.Test.YtgeemdpflcefkaaYx30
import Derived.Test.YtgeemdpflcefkaaYx33
import Derived.Test.YtgeemdpflcefkaaYx34
namespace Go.Proofs.Ytgeemdpflcefkaa.Y
open Go.RowKit Go.Proofs.YtgeemdpflcefkaaW.PrintWords Go.Proofs.YtgeemdpflcefkaaW.PrintLast Go.Proofs.YtgeemdpflcefkaaW.PrintMore
attribute [local go_sem] max2_int min2_int max_two min_two max_three min_three max_four min_four   -- for this text's walks alone
set_option linter.unusedVariables false
set_option linter.unusedSimpArgs false

/-! ### warrantorref14_Check: function 14 -/
def warrantorref14_Check.f (k : Nat) (a0_0 : Int) (l0_1 : List Int) (a1_0 : Int) (a1_1 : Int) (a1_2 : Int) (a1_3 : Int) (a1_4 : Int) : Option (Int) := (warrantorref08_Check.f k a0_0 l0_1).bind fun t483 => (if t483 = true then ((warrantorref11_Right.f k a1_0 a1_1 a1_2 a1_3 a1_4 a0_0).bind fun t484 => (if t484 = true then (some 0) else (some 111))) else (some 80))
theorem warrantorref14_Check.mono : ∀ a0 a1 a2 a3 a4 a5 a6 k, LeO (warrantorref14_Check.f k a0 a1 a2 a3 a4 a5 a6) (warrantorref14_Check.f (k + 1) a0 a1 a2 a3 a4 a5 a6) := by
  intro a0 a1 a2 a3 a4 a5 a6 k
  unfold warrantorref14_Check.f
  repeat' first
      | (with_reducible exact warrantorref08_Check.mono _ _ _)
      | (with_reducible exact warrantorref11_Right.mono _ _ _ _ _ _ _)
      | (with_reducible exact LeO.refl _)
      | (with_reducible exact LeO.none _)
      | (with_reducible refine LeO.ite ?_ ?_)
      | (with_reducible refine LeO.bind ?_ (fun _ => ?_))
      | exact warrantorref08_Check.mono _ _ _
      | exact warrantorref11_Right.mono _ _ _ _ _ _ _
      | exact LeO.none _
      | refine LeO.ite ?_ ?_
      | refine LeO.bind ?_ (fun _ => ?_)
set_option maxHeartbeats 8000000 in
set_option maxRecDepth 100000 in
theorem warrantorref14_Check.calls (k : Nat) (a0_0 : Int) (A0_1 : Option Addr) (c0_1 : Nat) (l0_1 : List Int) (a1_0 : Int) (a1_1 : Int) (a1_2 : Int) (a1_3 : Int) (a1_4 : Int) (r : Int) (w : World) (hr0_1 : Kd.C (Kd.int .i64) w A0_1 l0_1.length l0_1) (hc0_1 : l0_1.length ≤ c0_1) (h : warrantorref14_Check.f k a0_0 l0_1 a1_0 a1_1 a1_2 a1_3 a1_4 = some r) :
    Calls Try.prog 14 #[.agg #[.int .i64 a0_0, .slice A0_1 l0_1.length c0_1], .agg #[.int .i64 a1_0, .int .i64 a1_1, .int .i64 a1_2, .int .i64 a1_3, .int .i64 a1_4]] w fun e w' => e = .returned (.int .i64 r) ∧ Below w.heap.size w w' := by
  have hu24 := Try.underlying24
  have hu26 := Try.underlying26
  have HR0_1 := Aside0.mk hr0_1
  have HC0_1 := Aside0.mk hc0_1
  clear hr0_1 hc0_1
  have HB := Aside0.mk (Below.refl w.heap.size w)
  have H : ((warrantorref08_Check.f k a0_0 l0_1).bind fun t483 => (if t483 = true then ((warrantorref11_Right.f k a1_0 a1_1 a1_2 a1_3 a1_4 a0_0).bind fun t484 => (if t484 = true then (some 0) else (some 111))) else (some 80))) = some r := h
  clear h
  replace H := bd_ H
  obtain ⟨t483, A3, H⟩ := H
  (try dsimp only at H)
  by_cases c4 : t483 = true
  rotate_left
  · replace c4 := Bool.eq_false_iff.mpr c4
    subst c4
    replace H := ng1_ H
    obtain rfl := Option.some.inj H
    go_enter Try.func14, Try.ntmps14
    go_wp2_with (first | ((with_reducible refine gate_dst (N := 2) rfl ?_); refine bx_ (N := 2) (cs := #[.int .i64 a0_0, .slice A0_1 l0_1.length c0_1]) (t := 24) ?_; intro gb481 hg w23 hbox hb; have n_ := a_ (bs_ HB hb) (a_ (Aside0.mk hbox) (a_ (gs_ HB hg) (gs_ HB hg))); clear HB; obtain ⟨HB, BK481, GW481, GE481⟩ := n_; clear hb hbox hg) | ((with_reducible refine gate_dst (N := 3) rfl ?_); refine bx_ (N := 3) (cs := #[.int .i64 a1_0, .int .i64 a1_1, .int .i64 a1_2, .int .i64 a1_3, .int .i64 a1_4]) (t := 26) ?_; intro gb482 hg w24 hbox hb; have n_ := a_ (bb_ BK481 hb) (a_ (bs_ HB hb) (a_ (Aside0.mk hbox) (a_ (gs_ HB hg) (a_ (gs_ HB hg) (a_ (nl_ BK481 hg) (ng_ BK481 hg)))))); clear BK481 HB; obtain ⟨BK481, HB, BK482, GW482, GE482, NB481_482, NB482_481⟩ := n_; clear hb hbox hg; have hnb25 := NB481_482.out; have hnc25 := NB482_481.out; obtain ⟨hcz26_0, hcz26_1, hfz26_0, hfz26_1⟩ := cz2_ BK481) | ((with_reducible refine gate_callee (f := 27) rfl ?_); refine goesL_ (some 7) rfl rfl Try.func27 (by kernel_rfl) rfl #[.agg #[.int .i64 a0_0, .slice A0_1 l0_1.length c0_1]] rfl MP_ ?_; (with_reducible refine (warrantorref08_Check.calls k a0_0 _ _ l0_1 false _ ?side1 ?side2 A3.out).mono ?_); (case side1 => exact sd_ (Kd.C_below HR0_1.out HB.out)); (case side2 => exact HC0_1.out); rintro e w27 ⟨rfl, hb⟩; refine ⟨_, rfl, ?_⟩; have n_ := a_ (bb_ BK481 hb) (a_ (bb_ BK482 hb) (bs_ HB hb)); clear BK481 BK482 HB; obtain ⟨BK481, BK482, HB⟩ := n_; (try clear hb); (try clear hb2); (try clear hk); (try clear hi)))
    go_ret
    exact ⟨by first | rfl | (simp [errW_none, errW_some] <;> rfl) | (simp [*, errW_none, errW_some] <;> rfl), HB_⟩

  subst c4
  replace H := ps1_ H
  replace H := bd_ H
  obtain ⟨t484, A5, H⟩ := H
  (try dsimp only at H)
  by_cases c6 : t484 = true
  · subst c6
    replace H := ps1_ H
    obtain rfl := Option.some.inj H
    go_enter Try.func14, Try.ntmps14
    go_wp2_with (first | ((with_reducible refine gate_dst (N := 2) rfl ?_); refine bx_ (N := 2) (cs := #[.int .i64 a0_0, .slice A0_1 l0_1.length c0_1]) (t := 24) ?_; intro gb481 hg w7 hbox hb; have n_ := a_ (bs_ HB hb) (a_ (Aside0.mk hbox) (a_ (gs_ HB hg) (gs_ HB hg))); clear HB; obtain ⟨HB, BK481, GW481, GE481⟩ := n_; clear hb hbox hg) | ((with_reducible refine gate_dst (N := 3) rfl ?_); refine bx_ (N := 3) (cs := #[.int .i64 a1_0, .int .i64 a1_1, .int .i64 a1_2, .int .i64 a1_3, .int .i64 a1_4]) (t := 26) ?_; intro gb482 hg w8 hbox hb; have n_ := a_ (bb_ BK481 hb) (a_ (bs_ HB hb) (a_ (Aside0.mk hbox) (a_ (gs_ HB hg) (a_ (gs_ HB hg) (a_ (nl_ BK481 hg) (ng_ BK481 hg)))))); clear BK481 HB; obtain ⟨BK481, HB, BK482, GW482, GE482, NB481_482, NB482_481⟩ := n_; clear hb hbox hg; have hnb9 := NB481_482.out; have hnc9 := NB482_481.out; obtain ⟨hcz10_0, hcz10_1, hfz10_0, hfz10_1⟩ := cz2_ BK481) | ((with_reducible refine gate_callee (f := 27) rfl ?_); refine goesL_ (some 7) rfl rfl Try.func27 (by kernel_rfl) rfl #[.agg #[.int .i64 a0_0, .slice A0_1 l0_1.length c0_1]] rfl MP_ ?_; (with_reducible refine (warrantorref08_Check.calls k a0_0 _ _ l0_1 true _ ?side1 ?side2 A3.out).mono ?_); (case side1 => exact sd_ (Kd.C_below HR0_1.out HB.out)); (case side2 => exact HC0_1.out); rintro e w11 ⟨rfl, hb⟩; refine ⟨_, rfl, ?_⟩; have n_ := a_ (bb_ BK481 hb) (a_ (bb_ BK482 hb) (bs_ HB hb)); clear BK481 BK482 HB; obtain ⟨BK481, BK482, HB⟩ := n_; (try clear hb); (try clear hb2); (try clear hk); (try clear hi); have hcz12_0 : w11.cell? ⟨gb482, 0, none⟩ = some (.int .i64 a1_0) := (blk_cell BK482.out 0).trans rfl; have hcz12_1 : w11.cell? ⟨gb482, 1, none⟩ = some (.int .i64 a1_1) := (blk_cell BK482.out 1).trans rfl; have hcz12_2 : w11.cell? ⟨gb482, 2, none⟩ = some (.int .i64 a1_2) := (blk_cell BK482.out 2).trans rfl; have hcz12_3 : w11.cell? ⟨gb482, 3, none⟩ = some (.int .i64 a1_3) := (blk_cell BK482.out 3).trans rfl; have hcz12_4 : w11.cell? ⟨gb482, 4, none⟩ = some (.int .i64 a1_4) := (blk_cell BK482.out 4).trans rfl; have hfz12_0 := blk_frozen BK482.out 0; have hfz12_1 := blk_frozen BK482.out 1; have hfz12_2 := blk_frozen BK482.out 2; have hfz12_3 := blk_frozen BK482.out 3; have hfz12_4 := blk_frozen BK482.out 4; obtain ⟨hcz13_0, hcz13_1, hfz13_0, hfz13_1⟩ := cz2_ BK481) | ((with_reducible refine gate_callee (f := 60) rfl ?_); refine goesL_ (some 13) rfl rfl Try.func60 (by kernel_rfl) rfl #[.agg #[.int .i64 a1_0, .int .i64 a1_1, .int .i64 a1_2, .int .i64 a1_3, .int .i64 a1_4], .int .i64 a0_0] rfl MP_ ?_; (with_reducible refine (warrantorref11_Right.calls k a1_0 a1_1 a1_2 a1_3 a1_4 a0_0 true _ A5.out).mono ?_); rintro e w14 ⟨rfl, hb⟩; refine ⟨_, rfl, ?_⟩; have n_ := a_ (bb_ BK481 hb) (a_ (bb_ BK482 hb) (bs_ HB hb)); clear BK481 BK482 HB; obtain ⟨BK481, BK482, HB⟩ := n_; (try clear hb); (try clear hb2); (try clear hk); (try clear hi)))
    go_ret
    exact ⟨by first | rfl | (simp [errW_none, errW_some] <;> rfl) | (simp [*, errW_none, errW_some] <;> rfl), HB_⟩
  replace c6 := Bool.eq_false_iff.mpr c6
  subst c6
  replace H := ng1_ H
  obtain rfl := Option.some.inj H
  go_enter Try.func14, Try.ntmps14
  go_wp2_with (first | ((with_reducible refine gate_dst (N := 2) rfl ?_); refine bx_ (N := 2) (cs := #[.int .i64 a0_0, .slice A0_1 l0_1.length c0_1]) (t := 24) ?_; intro gb481 hg w15 hbox hb; have n_ := a_ (bs_ HB hb) (a_ (Aside0.mk hbox) (a_ (gs_ HB hg) (gs_ HB hg))); clear HB; obtain ⟨HB, BK481, GW481, GE481⟩ := n_; clear hb hbox hg) | ((with_reducible refine gate_dst (N := 3) rfl ?_); refine bx_ (N := 3) (cs := #[.int .i64 a1_0, .int .i64 a1_1, .int .i64 a1_2, .int .i64 a1_3, .int .i64 a1_4]) (t := 26) ?_; intro gb482 hg w16 hbox hb; have n_ := a_ (bb_ BK481 hb) (a_ (bs_ HB hb) (a_ (Aside0.mk hbox) (a_ (gs_ HB hg) (a_ (gs_ HB hg) (a_ (nl_ BK481 hg) (ng_ BK481 hg)))))); clear BK481 HB; obtain ⟨BK481, HB, BK482, GW482, GE482, NB481_482, NB482_481⟩ := n_; clear hb hbox hg; have hnb17 := NB481_482.out; have hnc17 := NB482_481.out; obtain ⟨hcz18_0, hcz18_1, hfz18_0, hfz18_1⟩ := cz2_ BK481) | ((with_reducible refine gate_callee (f := 27) rfl ?_); refine goesL_ (some 7) rfl rfl Try.func27 (by kernel_rfl) rfl #[.agg #[.int .i64 a0_0, .slice A0_1 l0_1.length c0_1]] rfl MP_ ?_; (with_reducible refine (warrantorref08_Check.calls k a0_0 _ _ l0_1 true _ ?side1 ?side2 A3.out).mono ?_); (case side1 => exact sd_ (Kd.C_below HR0_1.out HB.out)); (case side2 => exact HC0_1.out); rintro e w19 ⟨rfl, hb⟩; refine ⟨_, rfl, ?_⟩; have n_ := a_ (bb_ BK481 hb) (a_ (bb_ BK482 hb) (bs_ HB hb)); clear BK481 BK482 HB; obtain ⟨BK481, BK482, HB⟩ := n_; (try clear hb); (try clear hb2); (try clear hk); (try clear hi); have hcz20_0 : w19.cell? ⟨gb482, 0, none⟩ = some (.int .i64 a1_0) := (blk_cell BK482.out 0).trans rfl; have hcz20_1 : w19.cell? ⟨gb482, 1, none⟩ = some (.int .i64 a1_1) := (blk_cell BK482.out 1).trans rfl; have hcz20_2 : w19.cell? ⟨gb482, 2, none⟩ = some (.int .i64 a1_2) := (blk_cell BK482.out 2).trans rfl; have hcz20_3 : w19.cell? ⟨gb482, 3, none⟩ = some (.int .i64 a1_3) := (blk_cell BK482.out 3).trans rfl; have hcz20_4 : w19.cell? ⟨gb482, 4, none⟩ = some (.int .i64 a1_4) := (blk_cell BK482.out 4).trans rfl; have hfz20_0 := blk_frozen BK482.out 0; have hfz20_1 := blk_frozen BK482.out 1; have hfz20_2 := blk_frozen BK482.out 2; have hfz20_3 := blk_frozen BK482.out 3; have hfz20_4 := blk_frozen BK482.out 4; obtain ⟨hcz21_0, hcz21_1, hfz21_0, hfz21_1⟩ := cz2_ BK481) | ((with_reducible refine gate_callee (f := 60) rfl ?_); refine goesL_ (some 13) rfl rfl Try.func60 (by kernel_rfl) rfl #[.agg #[.int .i64 a1_0, .int .i64 a1_1, .int .i64 a1_2, .int .i64 a1_3, .int .i64 a1_4], .int .i64 a0_0] rfl MP_ ?_; (with_reducible refine (warrantorref11_Right.calls k a1_0 a1_1 a1_2 a1_3 a1_4 a0_0 false _ A5.out).mono ?_); rintro e w22 ⟨rfl, hb⟩; refine ⟨_, rfl, ?_⟩; have n_ := a_ (bb_ BK481 hb) (a_ (bb_ BK482 hb) (bs_ HB hb)); clear BK481 BK482 HB; obtain ⟨BK481, BK482, HB⟩ := n_; (try clear hb); (try clear hb2); (try clear hk); (try clear hi)))
  go_ret
  exact ⟨by first | rfl | (simp [errW_none, errW_some] <;> rfl) | (simp [*, errW_none, errW_some] <;> rfl), HB_⟩
/-! ### warrantorref14_Fault: function 20 -/
def warrantorref14_Fault.f (k : Nat) (a0_0 : Int) (l0_1 : List Int) (a1_0 : Int) (a1_1 : Int) (a1_2 : Int) (a1_3 : Int) (a1_4 : Int) : Option (Int × List Int) := if a1_0 = 5 then ((warrantorref09_Limit.f k a0_0 l0_1 a1_2 a1_1 (wrap64 ((wrap64 (-a1_3)) - 1))).bind fun bt488 => (some (bt488.1, bt488.2))) else (some (a0_0, ([] : List Int)))
theorem warrantorref14_Fault.mono : ∀ a0 a1 a2 a3 a4 a5 a6 k, LeO (warrantorref14_Fault.f k a0 a1 a2 a3 a4 a5 a6) (warrantorref14_Fault.f (k + 1) a0 a1 a2 a3 a4 a5 a6) := by
  intro a0 a1 a2 a3 a4 a5 a6 k
  unfold warrantorref14_Fault.f
  repeat' first
      | (with_reducible exact warrantorref09_Limit.mono _ _ _ _ _ _)
      | (with_reducible exact LeO.refl _)
      | (with_reducible exact LeO.none _)
      | (with_reducible refine LeO.ite ?_ ?_)
      | (with_reducible refine LeO.bind ?_ (fun _ => ?_))
      | exact warrantorref09_Limit.mono _ _ _ _ _ _
      | exact LeO.none _
      | refine LeO.ite ?_ ?_
      | refine LeO.bind ?_ (fun _ => ?_)
set_option maxHeartbeats 8000000 in
set_option maxRecDepth 100000 in
theorem warrantorref14_Fault.calls (k : Nat) (a0_0 : Int) (P0_1_ : Nat → Prop) (A0_1 : Option Addr) (c0_1 : Nat) (l0_1 : List Int) (a1_0 : Int) (a1_1 : Int) (a1_2 : Int) (a1_3 : Int) (a1_4 : Int) (r1 : Int) (r2 : List Int) (w : World) (hs0_1 : Kd.V (Kd.int .i64) 3 w w.heap.size (fun k_ => P0_1_ k_) (.slice A0_1 l0_1.length c0_1) l0_1) (h : warrantorref14_Fault.f k a0_0 l0_1 a1_0 a1_1 a1_2 a1_3 a1_4 = some (r1, r2)) :
    Calls Try.prog 20 #[.agg #[.int .i64 a0_0, .slice A0_1 l0_1.length c0_1], .agg #[.int .i64 a1_0, .int .i64 a1_1, .int .i64 a1_2, .int .i64 a1_3, .int .i64 a1_4]] w fun e w' => ∃ v1_ : Value, e = .returned (.agg #[.int .i64 r1, v1_]) ∧ Kd.V (Kd.int .i64) 3 w' w.heap.size (fun k_ => (P0_1_ k_ ∨ w.heap.size ≤ k_)) v1_ r2 ∧ Below w.heap.size w w' := by
  have hu24 := Try.underlying24
  have hu26 := Try.underlying26
  have HO0_1 := Aside0.mk (show Kd.V (Kd.int .i64) 3 w w.heap.size (fun k_ => (P0_1_ k_ ∨ w.heap.size ≤ k_)) (.slice A0_1 l0_1.length c0_1) l0_1 from Kd.V_mono hs0_1 (fun k_ hk => .inl hk))
  have HB := Aside0.mk (Below.refl w.heap.size w)
  have H : (if a1_0 = 5 then ((warrantorref09_Limit.f k a0_0 l0_1 a1_2 a1_1 (wrap64 ((wrap64 (-a1_3)) - 1))).bind fun bt488 => (some (bt488.1, bt488.2))) else (some (a0_0, ([] : List Int)))) = some (r1, r2) := h
  clear h
  by_cases c3 : a1_0 = 5
  rotate_left
  · rw [if_neg c3] at H
    have c3b0 : (a1_0 == 5) = false := beq_eq_false_iff_ne.mpr c3
    have c3b1 : (a1_0 != 5) = true := bne_iff_ne.mpr c3
    simp only [Option.some.injEq, Prod.mk.injEq] at H
    obtain ⟨rfl, rfl⟩ := H
    go_enter Try.func20, Try.ntmps20
    go_wp2_with (first | ((with_reducible refine gate_dst (N := 2) rfl ?_); refine bx_ (N := 2) (cs := #[.int .i64 a0_0, .slice A0_1 l0_1.length c0_1]) (t := 24) ?_; intro gb485 hg w16 hbox hb; have n_ := a_ (Aside0.mk (Kd.V_below (Kd.V_elderB (by (with_reducible repeat (first | apply Kd.V_alloc | apply Kd.V_drewN | apply Kd.V_drew)); exact HO0_1.out) gb485 (Nat.le_of_eq hg.symm)) hb)) (a_ (bs_ HB hb) (a_ (Aside0.mk hbox) (a_ (gs_ HB hg) (gs_ HB hg)))); clear HO0_1 HB; obtain ⟨HO0_1, HB, BK485, GW485, GE485⟩ := n_; clear hb hbox hg) | ((with_reducible refine gate_dst (N := 3) rfl ?_); refine bx_ (N := 3) (cs := #[.int .i64 a1_0, .int .i64 a1_1, .int .i64 a1_2, .int .i64 a1_3, .int .i64 a1_4]) (t := 26) ?_; intro gb486 hg w17 hbox hb; have n_ := a_ (Aside0.mk (Kd.V_below (Kd.V_elderB (by (with_reducible repeat (first | apply Kd.V_alloc | apply Kd.V_drewN | apply Kd.V_drew)); exact HO0_1.out) gb486 (Nat.le_of_eq hg.symm)) hb)) (a_ (bb_ BK485 hb) (a_ (bs_ HB hb) (a_ (Aside0.mk hbox) (a_ (gs_ HB hg) (a_ (gs_ HB hg) (a_ (nl_ BK485 hg) (ng_ BK485 hg))))))); clear HO0_1 BK485 HB; obtain ⟨HO0_1, BK485, HB, BK486, GW486, GE486, NB485_486, NB486_485⟩ := n_; clear hb hbox hg) | ((with_reducible refine gate_dst (N := 4) rfl ?_); refine bx_ (N := 4) (cs := #[.int .i64 0, .slice none 0 0]) (t := 24) ?_; intro gb487 hg w18 hbox hb; have n_ := a_ (Aside0.mk (Kd.V_below (Kd.V_elderB (by (with_reducible repeat (first | apply Kd.V_alloc | apply Kd.V_drewN | apply Kd.V_drew)); exact HO0_1.out) gb487 (Nat.le_of_eq hg.symm)) hb)) (a_ (bb_ BK485 hb) (a_ (bb_ BK486 hb) (a_ (bs_ HB hb) (a_ (Aside0.mk hbox) (a_ (gs_ HB hg) (a_ (gs_ HB hg) (a_ (nl_ BK485 hg) (a_ (ng_ BK485 hg) (a_ (nl_ BK486 hg) (ng_ BK486 hg)))))))))); clear HO0_1 BK485 BK486 HB; obtain ⟨HO0_1, BK485, BK486, HB, BK487, GW487, GE487, NB485_487, NB487_485, NB486_487, NB487_486⟩ := n_; clear hb hbox hg; have hnb19 := NB486_485.out; have hnc19 := NB485_486.out; have hnb20 := NB486_487.out; have hnc20 := NB487_486.out; have hcz21_0 : w18.cell? ⟨gb486, 0, none⟩ = some (.int .i64 a1_0) := (blk_cell BK486.out 0).trans rfl; have hcz21_1 : w18.cell? ⟨gb486, 1, none⟩ = some (.int .i64 a1_1) := (blk_cell BK486.out 1).trans rfl; have hcz21_2 : w18.cell? ⟨gb486, 2, none⟩ = some (.int .i64 a1_2) := (blk_cell BK486.out 2).trans rfl; have hcz21_3 : w18.cell? ⟨gb486, 3, none⟩ = some (.int .i64 a1_3) := (blk_cell BK486.out 3).trans rfl; have hcz21_4 : w18.cell? ⟨gb486, 4, none⟩ = some (.int .i64 a1_4) := (blk_cell BK486.out 4).trans rfl; have hfz21_0 := blk_frozen BK486.out 0; have hfz21_1 := blk_frozen BK486.out 1; have hfz21_2 := blk_frozen BK486.out 2; have hfz21_3 := blk_frozen BK486.out 3; have hfz21_4 := blk_frozen BK486.out 4; have hnb22 := NB485_487.out; have hnc22 := NB487_485.out; obtain ⟨hcz23_0, hcz23_1, hfz23_0, hfz23_1⟩ := cz2_ BK485; obtain ⟨hcz24_0, hcz24_1, hfz24_0, hfz24_1⟩ := cz2_ BK487))
    refine bodyPost_ret (results_cell_row rfl _ _ gb487 24 #[.int .i64 a0_0, .slice none 0 0] (0, 0) _ rfl (bk2_ BK487.out) Try.underlying24 rfl (by kernel_rfl)) rfl ?_
    exact ⟨_, by first | rfl | (simp [errW_none, errW_some] <;> rfl) | (simp [*, errW_none, errW_some] <;> rfl), Kd.V_nil _ _ _ _ _, HB_⟩

  rw [if_pos c3] at H
  have c3b0 : (a1_0 == 5) = true := beq_iff_eq.mpr c3
  have c3b1 : (a1_0 != 5) = false := bne_eq_false_iff_eq.mpr c3
  clear c3
  replace H := Option.bind_eq_some_iff.mp H
  obtain ⟨⟨t488, t489⟩, A40, H⟩ := H
  replace H : (some (t488, t489)) = some (r1, r2) := H
  have A4 := Aside0.mk A40
  clear A40
  simp only [Option.some.injEq, Prod.mk.injEq] at H
  obtain ⟨rfl, rfl⟩ := H
  go_enter Try.func20, Try.ntmps20
  go_wp2_with (first | ((with_reducible refine gate_dst (N := 2) rfl ?_); refine bx_ (N := 2) (cs := #[.int .i64 a0_0, .slice A0_1 l0_1.length c0_1]) (t := 24) ?_; intro gb485 hg w5 hbox hb; have n_ := a_ (Aside0.mk (Kd.V_below (Kd.V_elderB (by (with_reducible repeat (first | apply Kd.V_alloc | apply Kd.V_drewN | apply Kd.V_drew)); exact HO0_1.out) gb485 (Nat.le_of_eq hg.symm)) hb)) (a_ (bs_ HB hb) (a_ (Aside0.mk hbox) (a_ (gs_ HB hg) (gs_ HB hg)))); clear HO0_1 HB; obtain ⟨HO0_1, HB, BK485, GW485, GE485⟩ := n_; clear hb hbox hg) | ((with_reducible refine gate_dst (N := 3) rfl ?_); refine bx_ (N := 3) (cs := #[.int .i64 a1_0, .int .i64 a1_1, .int .i64 a1_2, .int .i64 a1_3, .int .i64 a1_4]) (t := 26) ?_; intro gb486 hg w6 hbox hb; have n_ := a_ (Aside0.mk (Kd.V_below (Kd.V_elderB (by (with_reducible repeat (first | apply Kd.V_alloc | apply Kd.V_drewN | apply Kd.V_drew)); exact HO0_1.out) gb486 (Nat.le_of_eq hg.symm)) hb)) (a_ (bb_ BK485 hb) (a_ (bs_ HB hb) (a_ (Aside0.mk hbox) (a_ (gs_ HB hg) (a_ (gs_ HB hg) (a_ (nl_ BK485 hg) (ng_ BK485 hg))))))); clear HO0_1 BK485 HB; obtain ⟨HO0_1, BK485, HB, BK486, GW486, GE486, NB485_486, NB486_485⟩ := n_; clear hb hbox hg) | ((with_reducible refine gate_dst (N := 4) rfl ?_); refine bx_ (N := 4) (cs := #[.int .i64 0, .slice none 0 0]) (t := 24) ?_; intro gb487 hg w7 hbox hb; have n_ := a_ (Aside0.mk (Kd.V_below (Kd.V_elderB (by (with_reducible repeat (first | apply Kd.V_alloc | apply Kd.V_drewN | apply Kd.V_drew)); exact HO0_1.out) gb487 (Nat.le_of_eq hg.symm)) hb)) (a_ (bb_ BK485 hb) (a_ (bb_ BK486 hb) (a_ (bs_ HB hb) (a_ (Aside0.mk hbox) (a_ (gs_ HB hg) (a_ (gs_ HB hg) (a_ (nl_ BK485 hg) (a_ (ng_ BK485 hg) (a_ (nl_ BK486 hg) (ng_ BK486 hg)))))))))); clear HO0_1 BK485 BK486 HB; obtain ⟨HO0_1, BK485, BK486, HB, BK487, GW487, GE487, NB485_487, NB487_485, NB486_487, NB487_486⟩ := n_; clear hb hbox hg; have hnb8 := NB486_485.out; have hnc8 := NB485_486.out; have hnb9 := NB486_487.out; have hnc9 := NB487_486.out; have hcz10_0 : w7.cell? ⟨gb486, 0, none⟩ = some (.int .i64 a1_0) := (blk_cell BK486.out 0).trans rfl; have hcz10_1 : w7.cell? ⟨gb486, 1, none⟩ = some (.int .i64 a1_1) := (blk_cell BK486.out 1).trans rfl; have hcz10_2 : w7.cell? ⟨gb486, 2, none⟩ = some (.int .i64 a1_2) := (blk_cell BK486.out 2).trans rfl; have hcz10_3 : w7.cell? ⟨gb486, 3, none⟩ = some (.int .i64 a1_3) := (blk_cell BK486.out 3).trans rfl; have hcz10_4 : w7.cell? ⟨gb486, 4, none⟩ = some (.int .i64 a1_4) := (blk_cell BK486.out 4).trans rfl; have hfz10_0 := blk_frozen BK486.out 0; have hfz10_1 := blk_frozen BK486.out 1; have hfz10_2 := blk_frozen BK486.out 2; have hfz10_3 := blk_frozen BK486.out 3; have hfz10_4 := blk_frozen BK486.out 4; have hnb11 := NB485_487.out; have hnc11 := NB487_485.out; obtain ⟨hcz12_0, hcz12_1, hfz12_0, hfz12_1⟩ := cz2_ BK485) | ((with_reducible refine gate_callee (f := 32) rfl ?_); refine goesL_ (some 20) rfl rfl Try.func32 (by kernel_rfl) rfl #[.agg #[.int .i64 a0_0, .slice A0_1 l0_1.length c0_1], .int .i64 a1_2, .int .i64 a1_1, .int .i64 (wrap64 ((wrap64 (-a1_3)) - 1))] rfl MP_ ?_; (with_reducible refine (warrantorref09_Limit.calls k a0_0 (fun k_ => ((((P0_1_ k_ ∨ w.heap.size ≤ k_) ∧ k_ ≠ gb485) ∧ k_ ≠ gb486) ∧ k_ ≠ gb487)) _ _ l0_1 a1_2 a1_1 (wrap64 ((wrap64 (-a1_3)) - 1)) t488 t489 _ ?side1 A4.out).mono ?_); (case side1 => exact HO0_1.out); rintro e w13 ⟨v490, rfl, ho0, hb⟩; refine ⟨_, rfl, ?_⟩; have n_ := a_ (Aside0.mk (Kd.V_below (by (with_reducible repeat (first | apply Kd.V_alloc | apply Kd.V_drewN | apply Kd.V_drew)); exact HO0_1.out) hb)) (a_ (Aside0.mk (Kd.V_lower (Kd.V_mono (ok' := fun k_ => (P0_1_ k_ ∨ w.heap.size ≤ k_) ∧ k_ ≠ gb485 ∧ k_ ≠ gb486 ∧ k_ ≠ gb487) ho0 (fun k_ hk_ => ⟨Or.elim hk_ (fun hs_ => hs_.1.1.1) (fun hn_ => (.inr (Nat.le_trans (below_size HB_) hn_))), Or.elim hk_ (fun hs_ => hs_.1.1.2) (fun hn_ => (Kd.freshB (g := gb485) (o := .cells #[.int .i64 a0_0, .slice A0_1 l0_1.length c0_1] 24 (0, 0)) (bk_ BK485.out) k_ hn_)), Or.elim hk_ (fun hs_ => hs_.1.2) (fun hn_ => (Kd.freshB (g := gb486) (o := .cells #[.int .i64 a1_0, .int .i64 a1_1, .int .i64 a1_2, .int .i64 a1_3, .int .i64 a1_4] 26 (0, 0)) (bk_ BK486.out) k_ hn_)), Or.elim hk_ (fun hs_ => hs_.2) (fun hn_ => (Kd.freshB (g := gb487) (o := .cells #[.int .i64 0, .slice none 0 0] 24 (0, 0)) (bk_ BK487.out) k_ hn_))⟩)) (below_size HB_))) (a_ (bb_ BK485 hb) (a_ (bb_ BK486 hb) (a_ (bb_ BK487 hb) (bs_ HB hb))))); clear HO0_1 BK485 BK486 BK487 HB; obtain ⟨HO0_1, HO491, BK485, BK486, BK487, HB⟩ := n_; (try clear hb); (try clear hb2); (try clear hk); (try clear hi); (try clear ho0); obtain ⟨hcz14_0, hcz14_1, hfz14_0, hfz14_1⟩ := cz2_ BK487; obtain ⟨Ao15, co15, eo15⟩ := Kd.V_slice HO491.out; subst eo15))
  refine bodyPost_ret (results_cell_row rfl _ _ gb487 24 #[.int .i64 t488, .slice Ao15 t489.length co15] (0, 0) _ rfl (bk2_ BK487.out) Try.underlying24 rfl (by kernel_rfl)) rfl ?_
  exact ⟨_, by first | rfl | (simp [errW_none, errW_some] <;> rfl) | (simp [*, errW_none, errW_some] <;> rfl), by (with_reducible repeat (first | apply Kd.V_alloc | apply Kd.V_drewN | apply Kd.V_drew)); exact Kd.V_mono (Kd.V_far (p := ⟨gb487, 1, none⟩) (Kd.V_far (p := ⟨gb487, 0, none⟩) (Kd.V_mono HO491.out (fun k_ hk => (⟨hk, hk.2.2.2⟩ : _ ∧ k_ ≠ gb487))) (fun _ hk => hk.2) (.int .i64 t488)) (fun _ hk => hk.2) (.slice Ao15 t489.length co15)) (fun _ hk => hk.1.1), HB_⟩
/-! ### warrantorref09_Forget: function 31 -/
def warrantorref09_Forget.l0 : Nat → Int → Int → List Int → Int → Int → List Int → Option (Int × List Int)
  | 0, _, _, _, _, _, _ => none
  | k + 1, x1, x5, x6, x7, x493000, x493001 => if x7 < (wrap64 (x5 * x5)) then (if x5 = 0 then (none) else (if (wrap64 (Int.tdiv x7 x5)) = x1 then (if x6.length < 17592186044416 then (warrantorref09_Forget.l0 k x1 x5 (x6 ++ [4398046511104]) (wrap64 (x7 + 1)) x493000 x493001) else (none)) else (if (Int.tmod x7 x5) = x1 then (if x6.length < 17592186044416 then (warrantorref09_Forget.l0 k x1 x5 (x6 ++ [4398046511104]) (wrap64 (x7 + 1)) x493000 x493001) else (none)) else (if 0 ≤ x7 then (if x7 < (x493001.length : Int) then (if x6.length < 17592186044416 then (warrantorref09_Forget.l0 k x1 x5 (x6 ++ [rd x493001 x7]) (wrap64 (x7 + 1)) x493000 x493001) else (none)) else (none)) else (none))))) else ((warrantorref08_Close.f k x493000 x6).bind fun bt504 => (some (bt504.1, bt504.2)))
def warrantorref09_Forget.f (k : Nat) (a0_0 : Int) (l0_1 : List Int) (a1 : Int) : Option (Int × List Int) := if (l0_1.length : Int) = 0 then (some (a0_0, l0_1)) else (warrantorref09_Forget.l0 k a1 (wrap64 (a0_0 + 1)) ([] : List Int) 0 a0_0 l0_1)
theorem warrantorref09_Forget.mono_l : ∀ k, (∀ y0 y1 y2 y3 y4 y5, LeO (warrantorref09_Forget.l0 k y0 y1 y2 y3 y4 y5) (warrantorref09_Forget.l0 (k + 1) y0 y1 y2 y3 y4 y5))
  | 0 => fun _ _ _ _ _ _ r h => by simp [warrantorref09_Forget.l0] at h
  | k + 1 => by
    have ih0 := warrantorref09_Forget.mono_l k
    · intro y0 y1 y2 y3 y4 y5
      unfold warrantorref09_Forget.l0
      repeat' first
      | (with_reducible exact ih0 _ _ _ _ _ _)
      | (with_reducible exact warrantorref08_Close.mono _ _ _)
      | (with_reducible exact LeO.refl _)
      | (with_reducible exact LeO.none _)
      | (with_reducible refine LeO.ite ?_ ?_)
      | (with_reducible refine LeO.bind ?_ (fun _ => ?_))
      | exact ih0 _ _ _ _ _ _
      | exact warrantorref08_Close.mono _ _ _
      | exact LeO.none _
      | refine LeO.ite ?_ ?_
      | refine LeO.bind ?_ (fun _ => ?_)
theorem warrantorref09_Forget.mono : ∀ a0 a1 a2 k, LeO (warrantorref09_Forget.f k a0 a1 a2) (warrantorref09_Forget.f (k + 1) a0 a1 a2) := by
  intro a0 a1 a2 k
  have ih0 := warrantorref09_Forget.mono_l k
  unfold warrantorref09_Forget.f
  repeat' first
      | (with_reducible exact ih0 _ _ _ _ _ _)
      | (with_reducible exact warrantorref08_Close.mono _ _ _)
      | (with_reducible exact LeO.refl _)
      | (with_reducible exact LeO.none _)
      | (with_reducible refine LeO.ite ?_ ?_)
      | (with_reducible refine LeO.bind ?_ (fun _ => ?_))
      | exact ih0 _ _ _ _ _ _
      | exact warrantorref08_Close.mono _ _ _
      | exact LeO.none _
      | refine LeO.ite ?_ ?_
      | refine LeO.bind ?_ (fun _ => ?_)
set_option maxHeartbeats 8000000 in
set_option maxRecDepth 100000 in
theorem warrantorref09_Forget.calls (k : Nat) (a0_0 : Int) (P0_1_ : Nat → Prop) (A0_1 : Option Addr) (c0_1 : Nat) (l0_1 : List Int) (a1 : Int) (r1 : Int) (r2 : List Int) (w : World) (hs0_1 : Kd.V (Kd.int .i64) 3 w w.heap.size (fun k_ => P0_1_ k_) (.slice A0_1 l0_1.length c0_1) l0_1) (h : warrantorref09_Forget.f k a0_0 l0_1 a1 = some (r1, r2)) :
    Calls Try.prog 31 #[.agg #[.int .i64 a0_0, .slice A0_1 l0_1.length c0_1], .int .i64 a1] w fun e w' => ∃ v1_ : Value, e = .returned (.agg #[.int .i64 r1, v1_]) ∧ Kd.V (Kd.int .i64) 3 w' w.heap.size (fun k_ => (P0_1_ k_ ∨ w.heap.size ≤ k_)) v1_ r2 ∧ Below w.heap.size w w' := by
  have hu24 := Try.underlying24
  have HO0_1 := Aside0.mk (show Kd.V (Kd.int .i64) 3 w w.heap.size (fun k_ => (P0_1_ k_ ∨ w.heap.size ≤ k_)) (.slice A0_1 l0_1.length c0_1) l0_1 from Kd.V_mono hs0_1 (fun k_ hk => .inl hk))
  have HB := Aside0.mk (Below.refl w.heap.size w)
  have H : (if (l0_1.length : Int) = 0 then (some (a0_0, l0_1)) else (warrantorref09_Forget.l0 k a1 (wrap64 (a0_0 + 1)) ([] : List Int) 0 a0_0 l0_1)) = some (r1, r2) := h
  clear h
  by_cases c3 : (l0_1.length : Int) = 0
  · rw [if_pos c3] at H
    have c3b0 : ((l0_1.length : Int) == 0) = true := beq_iff_eq.mpr c3
    have c3b1 : ((l0_1.length : Int) != 0) = false := bne_eq_false_iff_eq.mpr c3
    clear c3
    simp only [Option.some.injEq, Prod.mk.injEq] at H
    obtain ⟨rfl, rfl⟩ := H
    go_enter Try.func31, Try.ntmps31
    go_wp2_with (first | ((with_reducible refine gate_dst (N := 2) rfl ?_); refine bx_ (N := 2) (cs := #[.int .i64 a0_0, .slice A0_1 l0_1.length c0_1]) (t := 24) ?_; intro gb492 hg w4 hbox hb; have n_ := a_ (Aside0.mk (Kd.V_below (Kd.V_elderB (by (with_reducible repeat (first | apply Kd.V_alloc | apply Kd.V_drewN | apply Kd.V_drew)); exact HO0_1.out) gb492 (Nat.le_of_eq hg.symm)) hb)) (a_ (bs_ HB hb) (a_ (Aside0.mk hbox) (a_ (gs_ HB hg) (gs_ HB hg)))); clear HO0_1 HB; obtain ⟨HO0_1, HB, BK492, GW492, GE492⟩ := n_; clear hb hbox hg) | ((with_reducible refine gate_dst (N := 4) rfl ?_); refine bx_ (N := 4) (cs := #[.int .i64 0, .slice none 0 0]) (t := 24) ?_; intro gb493 hg w5 hbox hb; have n_ := a_ (Aside0.mk (Kd.V_below (Kd.V_elderB (by (with_reducible repeat (first | apply Kd.V_alloc | apply Kd.V_drewN | apply Kd.V_drew)); exact HO0_1.out) gb493 (Nat.le_of_eq hg.symm)) hb)) (a_ (bb_ BK492 hb) (a_ (bs_ HB hb) (a_ (Aside0.mk hbox) (a_ (gs_ HB hg) (a_ (gs_ HB hg) (a_ (nl_ BK492 hg) (ng_ BK492 hg))))))); clear HO0_1 BK492 HB; obtain ⟨HO0_1, BK492, HB, BK493, GW493, GE493, NB492_493, NB493_492⟩ := n_; clear hb hbox hg; have hnb6 := NB492_493.out; have hnc6 := NB493_492.out; obtain ⟨hcz7_0, hcz7_1, hfz7_0, hfz7_1⟩ := cz2_ BK492; obtain ⟨hcz8_0, hcz8_1, hfz8_0, hfz8_1⟩ := cz2_ BK493))
    refine bodyPost_ret (results_cell_row rfl _ _ gb493 24 #[.int .i64 a0_0, .slice A0_1 l0_1.length c0_1] (0, 0) _ rfl (bk2_ BK493.out) Try.underlying24 rfl (by kernel_rfl)) rfl ?_
    exact ⟨_, by first | rfl | (simp [errW_none, errW_some] <;> rfl) | (simp [*, errW_none, errW_some] <;> rfl), by (with_reducible repeat (first | apply Kd.V_alloc | apply Kd.V_drewN | apply Kd.V_drew)); exact Kd.V_mono (Kd.V_far (p := ⟨gb493, 1, none⟩) (Kd.V_far (p := ⟨gb493, 0, none⟩) (Kd.V_mono HO0_1.out (fun k_ hk => (⟨hk, hk.2⟩ : _ ∧ k_ ≠ gb493))) (fun _ hk => hk.2) (.int .i64 a0_0)) (fun _ hk => hk.2) (.slice A0_1 l0_1.length c0_1)) (fun _ hk => hk.1.1.1), HB_⟩
  rw [if_neg c3] at H
  have c3b0 : ((l0_1.length : Int) == 0) = false := beq_eq_false_iff_ne.mpr c3
  have c3b1 : ((l0_1.length : Int) != 0) = true := bne_iff_ne.mpr c3
  have c3b2 : ¬ (l0_1 = []) := fun h_ => c3 (by rw [h_]; rfl)
  have H' := Aside0.mk H
  clear H
  go_enter Try.func31, Try.ntmps31
  go_wp2_with (first | ((with_reducible refine gate_dst (N := 2) rfl ?_); refine bx_ (N := 2) (cs := #[.int .i64 a0_0, .slice A0_1 l0_1.length c0_1]) (t := 24) ?_; intro gb492 hg w9 hbox hb; have n_ := a_ (Aside0.mk (Kd.V_below (Kd.V_elderB (by (with_reducible repeat (first | apply Kd.V_alloc | apply Kd.V_drewN | apply Kd.V_drew)); exact HO0_1.out) gb492 (Nat.le_of_eq hg.symm)) hb)) (a_ (bs_ HB hb) (a_ (Aside0.mk hbox) (a_ (gs_ HB hg) (gs_ HB hg)))); clear HO0_1 HB; obtain ⟨HO0_1, HB, BK492, GW492, GE492⟩ := n_; clear hb hbox hg) | ((with_reducible refine gate_dst (N := 4) rfl ?_); refine bx_ (N := 4) (cs := #[.int .i64 0, .slice none 0 0]) (t := 24) ?_; intro gb493 hg w10 hbox hb; have n_ := a_ (Aside0.mk (Kd.V_below (Kd.V_elderB (by (with_reducible repeat (first | apply Kd.V_alloc | apply Kd.V_drewN | apply Kd.V_drew)); exact HO0_1.out) gb493 (Nat.le_of_eq hg.symm)) hb)) (a_ (bb_ BK492 hb) (a_ (bs_ HB hb) (a_ (Aside0.mk hbox) (a_ (gs_ HB hg) (a_ (gs_ HB hg) (a_ (nl_ BK492 hg) (ng_ BK492 hg))))))); clear HO0_1 BK492 HB; obtain ⟨HO0_1, BK492, HB, BK493, GW493, GE493, NB492_493, NB493_492⟩ := n_; clear hb hbox hg; have hnb11 := NB492_493.out; have hnc11 := NB493_492.out; obtain ⟨hcz12_0, hcz12_1, hfz12_0, hfz12_1⟩ := cz2_ BK492))
  go_loopg [6, 7] k (fun kq v6 v7 w' => ∃ (x6_1 : List Int) (x7_1 : Int), v7 = .int .i64 x7_1 ∧ Aside0 (warrantorref09_Forget.l0 kq a1 (wrap64 (a0_0 + 1)) x6_1 x7_1 a0_0 l0_1 = some (r1, r2)) ∧ Aside0 (kq ≤ k) ∧ Aside0 (Kd.R (Kd.int .i64) 3 w' w.heap.size (fun k_ => (w.heap.size ≤ k_)) v6 x6_1) ∧ Aside0 (Kd.V (Kd.int .i64) 3 w' w.heap.size (fun k_ => (P0_1_ k_ ∨ w.heap.size ≤ k_) ∧ some k_ ≠ (v6 : Value).ownBlock ∧ k_ ≠ gb492 ∧ k_ ≠ gb493) (.slice A0_1 l0_1.length c0_1) l0_1) ∧ Aside0 (w'.heap[gb492]? = some (.cells #[.int .i64 a0_0, (.slice A0_1 l0_1.length c0_1)] 24 (0, 0))) ∧ Aside0 (w'.heap[gb493]? = some (.cells #[.int .i64 0, (.slice none 0 0)] 24 (0, 0))) ∧ Aside0 (Below w.heap.size w w'))
  case atStart => exact ⟨(([] : List Int)), (0), (by first | rfl | (simp; done) | (simp [*]; done)), H', ⟨Nat.le_refl _⟩, ⟨by first | exact Kd.R_nil _ _ _ _ _ | exact Kd.N_nil _ _ _ _ _ | exact Kd.V_nil _ _ _ _ _ | exact Kd.Q_nil _ _ _ _ _ | exact Kd.S_nil _ _ _ _ _⟩, ⟨by (with_reducible repeat (first | apply Kd.V_alloc | apply Kd.V_drewN | apply Kd.V_drew)); exact Kd.V_mono HO0_1.out (fun _ hk => ⟨hk.1.1, ⟨(by simp [Value.ownBlock]), ⟨hk.1.2, hk.2⟩⟩⟩)⟩, ⟨by (with_reducible repeat (first | refine blk_drewN ?_ _ | refine blk_drew ?_ | refine blk_alloc ?_ _)); exact BK492.out⟩, ⟨by (with_reducible repeat (first | refine blk_drewN ?_ _ | refine blk_drew ?_ | refine blk_alloc ?_ _)); exact BK493.out⟩, ⟨HB_⟩⟩
  case round =>
    clear H'
    try clear c1
    try clear p2
    try clear c3
    try clear c3b0
    try clear c3b1
    try clear c3b2
    try clear c6
    try clear p6
    try clear c11
    try clear hcz12_0
    try clear hcz12_1
    try clear hcz7_0
    try clear hcz7_1
    try clear hcz8_0
    try clear hcz8_1
    try clear hfz12_0
    try clear hfz12_1
    try clear hfz7_0
    try clear hfz7_1
    try clear hfz8_0
    try clear hfz8_1
    obtain ⟨x6_1, x7_1, rfl, HA, HK1, HO_6, HO_493001, BK492, BK493, HB⟩ := hrel
    cases gk with
    | zero => exact absurd HA.out (by simp [warrantorref09_Forget.l0])
    | succ k1 =>
      have H := HA.out
      clear HA
      simp only [warrantorref09_Forget.l0] at H
      by_cases c13 : x7_1 < (wrap64 ((wrap64 (a0_0 + 1)) * (wrap64 (a0_0 + 1))))
      rotate_left
      · rw [if_neg c13] at H
        have c13b0 : decide (x7_1 < (wrap64 ((wrap64 (a0_0 + 1)) * (wrap64 (a0_0 + 1))))) = false := decide_eq_false c13
        have c13b0v : decide (x7_1 < (IntKind.i64.wrap ((IntKind.i64.wrap (a0_0 + 1)) * (IntKind.i64.wrap (a0_0 + 1))))) = false := by (try simp only [i64_w]); exact c13b0
        clear c13
        replace H := Option.bind_eq_some_iff.mp H
        obtain ⟨⟨t504, t505⟩, A270, H⟩ := H
        replace H : (some (t504, t505)) = some (r1, r2) := H
        have A27 := Aside0.mk A270
        clear A270
        simp only [Option.some.injEq, Prod.mk.injEq] at H
        obtain ⟨rfl, rfl⟩ := H
        have hnb28 := NB492_493.out
        have hnc28 := NB493_492.out
        obtain ⟨hcz29_0, hcz29_1, hfz29_0, hfz29_1⟩ := cz2_ BK492
        obtain ⟨Ao30, co30, eo30⟩ := Kd.R_slice HO_6.out
        subst eo30
        go_wp2_with (first | ((with_reducible refine gate_callee (f := 76) rfl ?_); refine goesL_ (some 49) rfl rfl Try.func76 (by kernel_rfl) rfl #[.int .i64 a0_0, .slice Ao30 x6_1.length co30] rfl MP_ ?_; (with_reducible refine (warrantorref08_Close.calls k1 a0_0 _ _ x6_1 t504 t505 _ ?side1 ?side2 A27.out).mono ?_); (case side1 => repeat (first | exact (Kd.R_reads' HO_6.out).2.2 | (with_reducible refine Kd.C_alloc ?_ _) | (with_reducible refine Kd.C_drewN ?_ _) | (with_reducible refine Kd.C_drew ?_))); (case side2 => exact (Kd.R_reads' HO_6.out).2.1); rintro e w31 ⟨v506, rfl, ho0, hb⟩; refine ⟨_, rfl, ?_⟩; have n_ := a_ (Aside0.mk (Kd.R_elder' (rd_ HO_6.out) (Kd.R_base ho0) hb)) (a_ (Aside0.mk (Kd.V_elder' (by (with_reducible repeat (first | apply Kd.V_alloc | apply Kd.V_drewN | apply Kd.V_drew)); exact HO_493001.out) (Kd.R_base ho0) hb)) (a_ (Aside0.mk (Kd.R_lower (Kd.R_new' (Kd.R_newM (M := fun k_ => (w.heap.size ≤ k_)) ho0 (below_size HB_) (fun k_ h_ => h_)) (Kd.R_lt (rd_ HO_6.out))) (below_size HB_))) (a_ (bb_ BK492 hb) (a_ (bb_ BK493 hb) (bs_ HB hb))))); clear HO_6 HO_493001 BK492 BK493 HB; obtain ⟨HO_6, HO_493001, HO507, BK492, BK493, HB⟩ := n_; (try clear hb); (try clear hb2); (try clear hk); (try clear hi); (try clear ho0); obtain ⟨hcz32_0, hcz32_1, hfz32_0, hfz32_1⟩ := cz2_ BK493; obtain ⟨Ao33, co33, eo33⟩ := Kd.R_slice HO507.out; subst eo33))
        refine bodyPost_ret (results_cell_row rfl _ _ gb493 24 #[.int .i64 t504, .slice Ao33 t505.length co33] (0, 0) _ rfl (bk2_ BK493.out) Try.underlying24 rfl (by kernel_rfl)) rfl ?_
        exact ⟨_, by first | rfl | (simp [errW_none, errW_some] <;> rfl) | (simp [*, errW_none, errW_some] <;> rfl), Kd.V_mono (Kd.R_V (rd_ (Kd.R_mono (Kd.R_far (p := ⟨gb493, 1, none⟩) (Kd.R_far (p := ⟨gb493, 0, none⟩) (Kd.R_types HO507.out BK493.out (by decide)) (fun _ hk => hk.2) (.int .i64 t504)) (fun _ hk => hk.2) (.slice Ao33 t505.length co33)) (fun _ hk => hk.1.1.1)))) (fun k_ hk => by first | exact ⟨(.inr (hk.1)), hk.2⟩ | exact (.inr (hk))), HB_⟩

      rw [if_pos c13] at H
      have c13b0 : decide (x7_1 < (wrap64 ((wrap64 (a0_0 + 1)) * (wrap64 (a0_0 + 1))))) = true := decide_eq_true c13
      have c13b0v : decide (x7_1 < (IntKind.i64.wrap ((IntKind.i64.wrap (a0_0 + 1)) * (IntKind.i64.wrap (a0_0 + 1))))) = true := by (try simp only [i64_w]); exact c13b0
      clear c13
      by_cases c14 : (wrap64 (a0_0 + 1)) = 0
      · rw [if_pos c14] at H
        exact absurd H (by simp)
      rw [if_neg c14] at H
      have c14b0 : ((wrap64 (a0_0 + 1)) == 0) = false := beq_eq_false_iff_ne.mpr c14
      have c14b0v : ((IntKind.i64.wrap (a0_0 + 1)) == 0) = false := by (try simp only [i64_w]); exact c14b0
      have c14b1 : ((wrap64 (a0_0 + 1)) != 0) = true := bne_iff_ne.mpr c14
      have c14b1v : ((IntKind.i64.wrap (a0_0 + 1)) != 0) = true := by (try simp only [i64_w]); exact c14b1
      by_cases c15 : (wrap64 (Int.tdiv x7_1 (wrap64 (a0_0 + 1)))) = a1
      · rw [if_pos c15] at H
        have c15b0 : ((wrap64 (Int.tdiv x7_1 (wrap64 (a0_0 + 1)))) == a1) = true := beq_iff_eq.mpr c15
        have c15b0v : ((IntKind.i64.wrap (Int.tdiv x7_1 (IntKind.i64.wrap (a0_0 + 1)))) == a1) = true := by (try simp only [i64_w]); exact c15b0
        have c15b1 : ((wrap64 (Int.tdiv x7_1 (wrap64 (a0_0 + 1)))) != a1) = false := bne_eq_false_iff_eq.mpr c15
        have c15b1v : ((IntKind.i64.wrap (Int.tdiv x7_1 (IntKind.i64.wrap (a0_0 + 1)))) != a1) = false := by (try simp only [i64_w]); exact c15b1
        clear c15
        replace H := yes_ H
        obtain ⟨c16, H⟩ := H
        have LMc16 := Aside0.mk c16
        clear c16
        obtain ⟨y494, hy494⟩ : ∃ y_ : List Int, y_ = (x6_1 ++ [4398046511104]) := ⟨_, rfl⟩
        replace H : (warrantorref09_Forget.l0 k1 a1 (wrap64 (a0_0 + 1)) y494 (wrap64 (x7_1 + 1)) a0_0 l0_1) = some (r1, r2) := by first | (rw [hy494]; with_reducible exact H) | (have H2_ := (Option.bind_some _ _).symm.trans H; rw [hy494]; with_reducible exact H2_) | (have H2_ := (Option.bind_some _ _).symm.trans H; with_reducible exact H2_) | with_reducible exact H | (rw [hy494]; exact H) | exact H
        have Ny494 := Aside0.mk hy494
        clear hy494
        have H' := Aside0.mk H
        clear H
        go_wp2_with (first | ((with_reducible refine gate_builtin (b := .append) (xs := #[.tmp 35, .tmp 36]) rfl ?_); at_builtin; refine Kd.R_append (Kd.int .i64) (w0 := w) w.heap.size rfl (.tmp 35) (.tmp 36) 22 3 (.int .i64 0) 8 rfl Try.underlying22 info3 rfl (by decide) (by omega) u6 x6_1 4398046511104 [.int .i64 4398046511104] (fun k_ => (w.heap.size ≤ k_)) (fun _ => False) rfl rfl ?aP (fun _ hk => hk.elim) ?aF ?aO ?aB ?aS ?aL ?_; (case aP => exact rfl); (case aB => exact HB_); (case aF => exact (fun k_ hk => (Nat.le_trans (below_size HB_) hk))); (case aO => exact (rd_ HO_6.out)); (case aS => exact (below_size HB_)); (case aL => have := LMc16.out; omega); intro v495 w17 ho hb hg hat; rw [← Ny494.out] at ho; have n_ := a_ (Aside0.mk (Kd.V_afterv (ok := (fun k_ => (P0_1_ k_ ∨ w.heap.size ≤ k_) ∧ k_ ≠ gb492 ∧ k_ ≠ gb493)) (by (with_reducible repeat (first | apply Kd.V_alloc | apply Kd.V_drewN | apply Kd.V_drew)); exact Kd.V_mono HO_493001.out (fun _ hk => ⟨⟨hk.1, ⟨hk.2.2.1, hk.2.2.2⟩⟩, hk.2.1⟩)) hg hat)) (a_ (Aside0.mk (blk_grown (g := gb492) (o := .cells #[.int .i64 a0_0, .slice A0_1 l0_1.length c0_1] 24 (0, 0)) (bk_ BK492.out) hg (Kd.R_ne HO_6.out BK492.out (by decide)))) (a_ (Aside0.mk (blk_grown (g := gb493) (o := .cells #[.int .i64 0, .slice none 0 0] 24 (0, 0)) (bk_ BK493.out) hg (Kd.R_ne HO_6.out BK493.out (by decide)))) (a_ (Aside0.mk hb) (Aside0.mk ho)))); clear HO_493001 BK492 BK493 HB HO_6; obtain ⟨HO_493001, BK492, BK493, HB, HO496⟩ := n_; clear ho hb hg hat))
        go_roundg k1
        case measure => have := HK1.out; omega
        case rel => exact ⟨(y494), (wrap64 (x7_1 + 1)), (by first | rfl | (simp; done) | (simp [*]; done)), H', ⟨by have := HK1.out; omega⟩, ⟨by (with_reducible repeat (first | apply Kd.R_alloc | apply Kd.R_drewN | apply Kd.R_drew)); exact HO496.out⟩, ⟨by (with_reducible repeat (first | apply Kd.V_alloc | apply Kd.V_drewN | apply Kd.V_drew)); exact Kd.V_mono HO_493001.out (fun _ hk => ⟨hk.1.1, ⟨hk.2, ⟨hk.1.2.1, hk.1.2.2⟩⟩⟩)⟩, ⟨by (with_reducible repeat (first | refine blk_drewN ?_ _ | refine blk_drew ?_ | refine blk_alloc ?_ _)); exact BK492.out⟩, ⟨by (with_reducible repeat (first | refine blk_drewN ?_ _ | refine blk_drew ?_ | refine blk_alloc ?_ _)); exact BK493.out⟩, ⟨HB_⟩⟩
      rw [if_neg c15] at H
      have c15b0 : ((wrap64 (Int.tdiv x7_1 (wrap64 (a0_0 + 1)))) == a1) = false := beq_eq_false_iff_ne.mpr c15
      have c15b0v : ((IntKind.i64.wrap (Int.tdiv x7_1 (IntKind.i64.wrap (a0_0 + 1)))) == a1) = false := by (try simp only [i64_w]); exact c15b0
      have c15b1 : ((wrap64 (Int.tdiv x7_1 (wrap64 (a0_0 + 1)))) != a1) = true := bne_iff_ne.mpr c15
      have c15b1v : ((IntKind.i64.wrap (Int.tdiv x7_1 (IntKind.i64.wrap (a0_0 + 1)))) != a1) = true := by (try simp only [i64_w]); exact c15b1
      by_cases c18 : (Int.tmod x7_1 (wrap64 (a0_0 + 1))) = a1
      · rw [if_pos c18] at H
        have c18b0 : ((Int.tmod x7_1 (wrap64 (a0_0 + 1))) == a1) = true := beq_iff_eq.mpr c18
        have c18b0v : ((Int.tmod x7_1 (IntKind.i64.wrap (a0_0 + 1))) == a1) = true := by (try simp only [i64_w]); exact c18b0
        have c18b1 : ((Int.tmod x7_1 (wrap64 (a0_0 + 1))) != a1) = false := bne_eq_false_iff_eq.mpr c18
        have c18b1v : ((Int.tmod x7_1 (IntKind.i64.wrap (a0_0 + 1))) != a1) = false := by (try simp only [i64_w]); exact c18b1
        clear c18
        replace H := yes_ H
        obtain ⟨c19, H⟩ := H
        have LMc19 := Aside0.mk c19
        clear c19
        obtain ⟨y497, hy497⟩ : ∃ y_ : List Int, y_ = (x6_1 ++ [4398046511104]) := ⟨_, rfl⟩
        replace H : (warrantorref09_Forget.l0 k1 a1 (wrap64 (a0_0 + 1)) y497 (wrap64 (x7_1 + 1)) a0_0 l0_1) = some (r1, r2) := by first | (rw [hy497]; with_reducible exact H) | (have H2_ := (Option.bind_some _ _).symm.trans H; rw [hy497]; with_reducible exact H2_) | (have H2_ := (Option.bind_some _ _).symm.trans H; with_reducible exact H2_) | with_reducible exact H | (rw [hy497]; exact H) | exact H
        have Ny497 := Aside0.mk hy497
        clear hy497
        have H' := Aside0.mk H
        clear H
        go_wp2_with (first | ((with_reducible refine gate_builtin (b := .append) (xs := #[.tmp 35, .tmp 36]) rfl ?_); at_builtin; refine Kd.R_append (Kd.int .i64) (w0 := w) w.heap.size rfl (.tmp 35) (.tmp 36) 22 3 (.int .i64 0) 8 rfl Try.underlying22 info3 rfl (by decide) (by omega) u6 x6_1 4398046511104 [.int .i64 4398046511104] (fun k_ => (w.heap.size ≤ k_)) (fun _ => False) rfl rfl ?aP (fun _ hk => hk.elim) ?aF ?aO ?aB ?aS ?aL ?_; (case aP => exact rfl); (case aB => exact HB_); (case aF => exact (fun k_ hk => (Nat.le_trans (below_size HB_) hk))); (case aO => exact (rd_ HO_6.out)); (case aS => exact (below_size HB_)); (case aL => have := LMc19.out; omega); intro v498 w20 ho hb hg hat; rw [← Ny497.out] at ho; have n_ := a_ (Aside0.mk (Kd.V_afterv (ok := (fun k_ => (P0_1_ k_ ∨ w.heap.size ≤ k_) ∧ k_ ≠ gb492 ∧ k_ ≠ gb493)) (by (with_reducible repeat (first | apply Kd.V_alloc | apply Kd.V_drewN | apply Kd.V_drew)); exact Kd.V_mono HO_493001.out (fun _ hk => ⟨⟨hk.1, ⟨hk.2.2.1, hk.2.2.2⟩⟩, hk.2.1⟩)) hg hat)) (a_ (Aside0.mk (blk_grown (g := gb492) (o := .cells #[.int .i64 a0_0, .slice A0_1 l0_1.length c0_1] 24 (0, 0)) (bk_ BK492.out) hg (Kd.R_ne HO_6.out BK492.out (by decide)))) (a_ (Aside0.mk (blk_grown (g := gb493) (o := .cells #[.int .i64 0, .slice none 0 0] 24 (0, 0)) (bk_ BK493.out) hg (Kd.R_ne HO_6.out BK493.out (by decide)))) (a_ (Aside0.mk hb) (Aside0.mk ho)))); clear HO_493001 BK492 BK493 HB HO_6; obtain ⟨HO_493001, BK492, BK493, HB, HO499⟩ := n_; clear ho hb hg hat))
        go_roundg k1
        case measure => have := HK1.out; omega
        case rel => exact ⟨(y497), (wrap64 (x7_1 + 1)), (by first | rfl | (simp; done) | (simp [*]; done)), H', ⟨by have := HK1.out; omega⟩, ⟨by (with_reducible repeat (first | apply Kd.R_alloc | apply Kd.R_drewN | apply Kd.R_drew)); exact HO499.out⟩, ⟨by (with_reducible repeat (first | apply Kd.V_alloc | apply Kd.V_drewN | apply Kd.V_drew)); exact Kd.V_mono HO_493001.out (fun _ hk => ⟨hk.1.1, ⟨hk.2, ⟨hk.1.2.1, hk.1.2.2⟩⟩⟩)⟩, ⟨by (with_reducible repeat (first | refine blk_drewN ?_ _ | refine blk_drew ?_ | refine blk_alloc ?_ _)); exact BK492.out⟩, ⟨by (with_reducible repeat (first | refine blk_drewN ?_ _ | refine blk_drew ?_ | refine blk_alloc ?_ _)); exact BK493.out⟩, ⟨HB_⟩⟩
      rw [if_neg c18] at H
      have c18b0 : ((Int.tmod x7_1 (wrap64 (a0_0 + 1))) == a1) = false := beq_eq_false_iff_ne.mpr c18
      have c18b0v : ((Int.tmod x7_1 (IntKind.i64.wrap (a0_0 + 1))) == a1) = false := by (try simp only [i64_w]); exact c18b0
      have c18b1 : ((Int.tmod x7_1 (wrap64 (a0_0 + 1))) != a1) = true := bne_iff_ne.mpr c18
      have c18b1v : ((Int.tmod x7_1 (IntKind.i64.wrap (a0_0 + 1))) != a1) = true := by (try simp only [i64_w]); exact c18b1
      replace H := yes_ H
      obtain ⟨c21, H⟩ := H
      have c21b0 : decide (0 ≤ x7_1) = true := decide_eq_true c21
      clear c21
      replace H := yes_ H
      obtain ⟨c22, H⟩ := H
      have c22b0 : decide (x7_1 < (l0_1.length : Int)) = true := decide_eq_true c22
      clear c22
      replace H := yes_ H
      obtain ⟨c23, H⟩ := H
      have LMc23 := Aside0.mk c23
      clear c23
      obtain ⟨y501, hy501⟩ : ∃ y_ : List Int, y_ = (x6_1 ++ [rd l0_1 x7_1]) := ⟨_, rfl⟩
      replace H : (warrantorref09_Forget.l0 k1 a1 (wrap64 (a0_0 + 1)) y501 (wrap64 (x7_1 + 1)) a0_0 l0_1) = some (r1, r2) := by first | (rw [hy501]; with_reducible exact H) | (have H2_ := (Option.bind_some _ _).symm.trans H; rw [hy501]; with_reducible exact H2_) | (have H2_ := (Option.bind_some _ _).symm.trans H; with_reducible exact H2_) | with_reducible exact H | (rw [hy501]; exact H) | exact H
      have Ny501 := Aside0.mk hy501
      clear hy501
      have H' := Aside0.mk H
      clear H
      have hnb24 := NB492_493.out
      have hnc24 := NB493_492.out
      obtain ⟨hcz25_0, hcz25_1, hfz25_0, hfz25_1⟩ := cz2_ BK492
      have p500 : 0 ≤ (x7_1 : Int) := of_decide_eq_true (by first | (with_reducible assumption) | assumption)
      have q500 : x7_1 < (l0_1.length : Int) := of_decide_eq_true (by first | (with_reducible assumption) | assumption)
      obtain ⟨ad500, e500, hx500_0⟩ := Kd.at_int (Kd.V_reads' HO_493001.out).2.2 x7_1 p500 q500
      cases e500
      replace p500 := eq_true p500
      replace q500 := eq_true q500
      go_wp2_with (first | ((with_reducible refine gate_builtin (b := .append) (xs := #[.tmp 38, .tmp 44]) rfl ?_); at_builtin; refine Kd.R_append (Kd.int .i64) (w0 := w) w.heap.size rfl (.tmp 38) (.tmp 44) 22 3 (.int .i64 0) 8 rfl Try.underlying22 info3 rfl (by decide) (by omega) u6 x6_1 (rd l0_1 x7_1) [.int .i64 (rd l0_1 x7_1)] (fun k_ => (w.heap.size ≤ k_)) (fun _ => False) rfl rfl ?aP (fun _ hk => hk.elim) ?aF ?aO ?aB ?aS ?aL ?_; (case aP => exact rfl); (case aB => exact HB_); (case aF => exact (fun k_ hk => (Nat.le_trans (below_size HB_) hk))); (case aO => exact (rd_ HO_6.out)); (case aS => exact (below_size HB_)); (case aL => have := LMc23.out; omega); intro v502 w26 ho hb hg hat; rw [← Ny501.out] at ho; have n_ := a_ (Aside0.mk (Kd.V_afterv (ok := (fun k_ => (P0_1_ k_ ∨ w.heap.size ≤ k_) ∧ k_ ≠ gb492 ∧ k_ ≠ gb493)) (by (with_reducible repeat (first | apply Kd.V_alloc | apply Kd.V_drewN | apply Kd.V_drew)); exact Kd.V_mono HO_493001.out (fun _ hk => ⟨⟨hk.1, ⟨hk.2.2.1, hk.2.2.2⟩⟩, hk.2.1⟩)) hg hat)) (a_ (Aside0.mk (blk_grown (g := gb492) (o := .cells #[.int .i64 a0_0, .slice (some ad500) l0_1.length c0_1] 24 (0, 0)) (bk_ BK492.out) hg (Kd.R_ne HO_6.out BK492.out (by decide)))) (a_ (Aside0.mk (blk_grown (g := gb493) (o := .cells #[.int .i64 0, .slice none 0 0] 24 (0, 0)) (bk_ BK493.out) hg (Kd.R_ne HO_6.out BK493.out (by decide)))) (a_ (Aside0.mk hb) (Aside0.mk ho)))); clear HO_493001 BK492 BK493 HB HO_6; obtain ⟨HO_493001, BK492, BK493, HB, HO503⟩ := n_; clear ho hb hg hat))
      go_roundg k1
      case measure => have := HK1.out; omega
      case rel => exact ⟨(y501), (wrap64 (x7_1 + 1)), (by first | rfl | (simp; done) | (simp [*]; done)), H', ⟨by have := HK1.out; omega⟩, ⟨by (with_reducible repeat (first | apply Kd.R_alloc | apply Kd.R_drewN | apply Kd.R_drew)); exact HO503.out⟩, ⟨by (with_reducible repeat (first | apply Kd.V_alloc | apply Kd.V_drewN | apply Kd.V_drew)); exact Kd.V_mono HO_493001.out (fun _ hk => ⟨hk.1.1, ⟨hk.2, ⟨hk.1.2.1, hk.1.2.2⟩⟩⟩)⟩, ⟨by (with_reducible repeat (first | refine blk_drewN ?_ _ | refine blk_drew ?_ | refine blk_alloc ?_ _)); exact BK492.out⟩, ⟨by (with_reducible repeat (first | refine blk_drewN ?_ _ | refine blk_drew ?_ | refine blk_alloc ?_ _)); exact BK493.out⟩, ⟨HB_⟩⟩
/-! ### warrantorref09_Let: function 33 -/
mutual
def warrantorref09_Let.j0 : Nat → Int → Int → Int → Bool → Int → List Int → Option (Int × List Int)
  | 0, _, _, _, _, _, _ => none
  | k + 1, x1, x2, x3, x23, x509000, x509001 => if x23 = true then (some (x509000, ([] : List Int))) else (if x1 = x2 then ((some (([] : List Int) : List Int)).bind fun y522 => (if y522.length + x509001.length < 17592186044416 then (warrantorref09_Let.l0 k x1 x3 (wrap64 (x509000 + 1)) (y522 ++ x509001) 0 x509000 x509001) else (none))) else ((warrantorref09_Forget.f k x509000 x509001 x1).bind fun bt510 => ((warrantorref09_Limit.f k bt510.1 bt510.2 x1 x2 x3).bind fun bt514 => ((warrantorref09_Limit.f k bt514.1 bt514.2 x2 x1 (wrap64 (-x3))).bind fun bt518 => (some (bt518.1, bt518.2))))))
def warrantorref09_Let.l0 : Nat → Int → Int → Int → List Int → Int → Int → List Int → Option (Int × List Int)
  | 0, _, _, _, _, _, _, _ => none
  | k + 1, x1, x3, x9, x10, x11, x509000, x509001 => if x11 < x9 then (if x11 = x1 then (warrantorref09_Let.l0 k x1 x3 x9 x10 (wrap64 (x11 + 1)) x509000 x509001) else (if 0 ≤ (wrap64 ((wrap64 (x1 * x9)) + x11)) then (if (wrap64 ((wrap64 (x1 * x9)) + x11)) < (x10.length : Int) then ((some (x10.set ((wrap64 ((wrap64 (x1 * x9)) + x11)) : Int).toNat (wrap64 ((rd x10 (wrap64 ((wrap64 (x1 * x9)) + x11))) + x3)) : List Int)).bind fun y529 => (if 0 ≤ (wrap64 ((wrap64 (x11 * x9)) + x1)) then (if (wrap64 ((wrap64 (x11 * x9)) + x1)) < (x10.length : Int) then (warrantorref09_Let.l0 k x1 x3 x9 (y529.set ((wrap64 ((wrap64 (x11 * x9)) + x1)) : Int).toNat (wrap64 ((rd y529 (wrap64 ((wrap64 (x11 * x9)) + x1))) - x3))) (wrap64 (x11 + 1)) x509000 x509001) else (none)) else (none))) else (none)) else (none))) else ((warrantorref08_Close.f k x509000 x10).bind fun bt532 => (some (bt532.1, bt532.2)))
end
def warrantorref09_Let.f (k : Nat) (a0_0 : Int) (l0_1 : List Int) (a1 : Int) (a2 : Int) (a3 : Int) : Option (Int × List Int) := if a3 > 2199023255552 then (warrantorref09_Let.j0 k a1 a2 a3 true a0_0 l0_1) else (if a3 < (-2199023255552) then (warrantorref09_Let.j0 k a1 a2 a3 true a0_0 l0_1) else (warrantorref09_Let.j0 k a1 a2 a3 ((l0_1.length : Int) == 0) a0_0 l0_1))
theorem warrantorref09_Let.mono_l : ∀ k, (∀ y0 y1 y2 y3 y4 y5, LeO (warrantorref09_Let.j0 k y0 y1 y2 y3 y4 y5) (warrantorref09_Let.j0 (k + 1) y0 y1 y2 y3 y4 y5)) ∧ (∀ y0 y1 y2 y3 y4 y5 y6, LeO (warrantorref09_Let.l0 k y0 y1 y2 y3 y4 y5 y6) (warrantorref09_Let.l0 (k + 1) y0 y1 y2 y3 y4 y5 y6))
  | 0 => ⟨fun _ _ _ _ _ _ r h => by simp [warrantorref09_Let.j0] at h, fun _ _ _ _ _ _ _ r h => by simp [warrantorref09_Let.l0] at h⟩
  | k + 1 => by
    obtain ⟨ih0, ih1⟩ := warrantorref09_Let.mono_l k
    refine ⟨?_, ?_⟩
    · intro y0 y1 y2 y3 y4 y5
      unfold warrantorref09_Let.j0
      repeat' first
      | (with_reducible exact ih0 _ _ _ _ _ _)
      | (with_reducible exact ih1 _ _ _ _ _ _ _)
      | (with_reducible exact warrantorref08_Close.mono _ _ _)
      | (with_reducible exact warrantorref09_Forget.mono _ _ _ _)
      | (with_reducible exact warrantorref09_Limit.mono _ _ _ _ _ _)
      | (with_reducible exact LeO.refl _)
      | (with_reducible exact LeO.none _)
      | (with_reducible refine LeO.ite ?_ ?_)
      | (with_reducible refine LeO.bind ?_ (fun _ => ?_))
      | exact ih0 _ _ _ _ _ _
      | exact ih1 _ _ _ _ _ _ _
      | exact warrantorref08_Close.mono _ _ _
      | exact warrantorref09_Forget.mono _ _ _ _
      | exact warrantorref09_Limit.mono _ _ _ _ _ _
      | exact LeO.none _
      | refine LeO.ite ?_ ?_
      | refine LeO.bind ?_ (fun _ => ?_)
    · intro y0 y1 y2 y3 y4 y5 y6
      unfold warrantorref09_Let.l0
      repeat' first
      | (with_reducible exact ih0 _ _ _ _ _ _)
      | (with_reducible exact ih1 _ _ _ _ _ _ _)
      | (with_reducible exact warrantorref08_Close.mono _ _ _)
      | (with_reducible exact warrantorref09_Forget.mono _ _ _ _)
      | (with_reducible exact warrantorref09_Limit.mono _ _ _ _ _ _)
      | (with_reducible exact LeO.refl _)
      | (with_reducible exact LeO.none _)
      | (with_reducible refine LeO.ite ?_ ?_)
      | (with_reducible refine LeO.bind ?_ (fun _ => ?_))
      | exact ih0 _ _ _ _ _ _
      | exact ih1 _ _ _ _ _ _ _
      | exact warrantorref08_Close.mono _ _ _
      | exact warrantorref09_Forget.mono _ _ _ _
      | exact warrantorref09_Limit.mono _ _ _ _ _ _
      | exact LeO.none _
      | refine LeO.ite ?_ ?_
      | refine LeO.bind ?_ (fun _ => ?_)
theorem warrantorref09_Let.mono : ∀ a0 a1 a2 a3 a4 k, LeO (warrantorref09_Let.f k a0 a1 a2 a3 a4) (warrantorref09_Let.f (k + 1) a0 a1 a2 a3 a4) := by
  intro a0 a1 a2 a3 a4 k
  obtain ⟨ih0, ih1⟩ := warrantorref09_Let.mono_l k
  unfold warrantorref09_Let.f
  repeat' first
      | (with_reducible exact ih0 _ _ _ _ _ _)
      | (with_reducible exact ih1 _ _ _ _ _ _ _)
      | (with_reducible exact warrantorref08_Close.mono _ _ _)
      | (with_reducible exact warrantorref09_Forget.mono _ _ _ _)
      | (with_reducible exact warrantorref09_Limit.mono _ _ _ _ _ _)
      | (with_reducible exact LeO.refl _)
      | (with_reducible exact LeO.none _)
      | (with_reducible refine LeO.ite ?_ ?_)
      | (with_reducible refine LeO.bind ?_ (fun _ => ?_))
      | exact ih0 _ _ _ _ _ _
      | exact ih1 _ _ _ _ _ _ _
      | exact warrantorref08_Close.mono _ _ _
      | exact warrantorref09_Forget.mono _ _ _ _
      | exact warrantorref09_Limit.mono _ _ _ _ _ _
      | exact LeO.none _
      | refine LeO.ite ?_ ?_
      | refine LeO.bind ?_ (fun _ => ?_)
set_option maxHeartbeats 8000000 in
set_option maxRecDepth 100000 in
theorem warrantorref09_Let.calls (k : Nat) (a0_0 : Int) (P0_1_ : Nat → Prop) (A0_1 : Option Addr) (c0_1 : Nat) (l0_1 : List Int) (a1 : Int) (a2 : Int) (a3 : Int) (r1 : Int) (r2 : List Int) (w : World) (hs0_1 : Kd.V (Kd.int .i64) 3 w w.heap.size (fun k_ => P0_1_ k_) (.slice A0_1 l0_1.length c0_1) l0_1) (h : warrantorref09_Let.f k a0_0 l0_1 a1 a2 a3 = some (r1, r2)) :
    Calls Try.prog 33 #[.agg #[.int .i64 a0_0, .slice A0_1 l0_1.length c0_1], .int .i64 a1, .int .i64 a2, .int .i64 a3] w fun e w' => ∃ v1_ : Value, e = .returned (.agg #[.int .i64 r1, v1_]) ∧ Kd.V (Kd.int .i64) 3 w' w.heap.size (fun k_ => (P0_1_ k_ ∨ w.heap.size ≤ k_)) v1_ r2 ∧ Below w.heap.size w w' := by
  have hu24 := Try.underlying24
  have HO0_1 := Aside0.mk (show Kd.V (Kd.int .i64) 3 w w.heap.size (fun k_ => (P0_1_ k_ ∨ w.heap.size ≤ k_)) (.slice A0_1 l0_1.length c0_1) l0_1 from Kd.V_mono hs0_1 (fun k_ hk => .inl hk))
  have HB := Aside0.mk (Below.refl w.heap.size w)
  have H : (if a3 > 2199023255552 then (warrantorref09_Let.j0 k a1 a2 a3 true a0_0 l0_1) else (if a3 < (-2199023255552) then (warrantorref09_Let.j0 k a1 a2 a3 true a0_0 l0_1) else (warrantorref09_Let.j0 k a1 a2 a3 ((l0_1.length : Int) == 0) a0_0 l0_1))) = some (r1, r2) := h
  clear h
  have HC5 := Aside0.mk H
  clear H
  go_enter Try.func33, Try.ntmps33
  go_upto_region 1 with (first | ((with_reducible refine gate_dst (N := 4) rfl ?_); (try (refine gate_guard (by rfl) ?_; dsimp only)); refine bx_ (N := 4) (cs := #[.int .i64 a0_0, .slice A0_1 l0_1.length c0_1]) (t := 24) ?_; intro gb508 hg w6 hbox hb; have n_ := a_ (Aside0.mk (Kd.V_below (Kd.V_elderB (by (with_reducible repeat (first | apply Kd.V_alloc | apply Kd.V_drewN | apply Kd.V_drew)); exact HO0_1.out) gb508 (Nat.le_of_eq hg.symm)) hb)) (a_ (bs_ HB hb) (a_ (Aside0.mk hbox) (a_ (gs_ HB hg) (gs_ HB hg)))); clear HO0_1 HB; obtain ⟨HO0_1, HB, BK508, GW508, GE508⟩ := n_; clear hb hbox hg) | ((with_reducible refine gate_dst (N := 8) rfl ?_); (try (refine gate_guard (by rfl) ?_; dsimp only)); refine bx_ (N := 8) (cs := #[.int .i64 0, .slice none 0 0]) (t := 24) ?_; intro gb509 hg w7 hbox hb; have n_ := a_ (Aside0.mk (Kd.V_below (Kd.V_elderB (by (with_reducible repeat (first | apply Kd.V_alloc | apply Kd.V_drewN | apply Kd.V_drew)); exact HO0_1.out) gb509 (Nat.le_of_eq hg.symm)) hb)) (a_ (bb_ BK508 hb) (a_ (bs_ HB hb) (a_ (Aside0.mk hbox) (a_ (gs_ HB hg) (a_ (gs_ HB hg) (a_ (nl_ BK508 hg) (ng_ BK508 hg))))))); clear HO0_1 BK508 HB; obtain ⟨HO0_1, BK508, HB, BK509, GW509, GE509, NB508_509, NB509_508⟩ := n_; clear hb hbox hg))
  (try simp only [Act.put, List.setIfInBounds_toArray, List.set_cons_zero, List.set_cons_succ])
  go_cut [23] (fun v23 wc => ∃ (kq : Nat) (x23_4 : Bool), v23 = .bool x23_4 ∧ Aside0 (warrantorref09_Let.j0 kq a1 a2 a3 x23_4 a0_0 l0_1 = some (r1, r2)) ∧ Aside0 (kq ≤ k) ∧ Aside0 (Kd.V (Kd.int .i64) 3 wc w.heap.size (fun k_ => (P0_1_ k_ ∨ w.heap.size ≤ k_) ∧ k_ ≠ gb508 ∧ k_ ≠ gb509) (.slice A0_1 l0_1.length c0_1) l0_1) ∧ Aside0 (wc.heap[gb508]? = some (.cells #[.int .i64 a0_0, (.slice A0_1 l0_1.length c0_1)] 24 (0, 0))) ∧ Aside0 (wc.heap[gb509]? = some (.cells #[.int .i64 0, (.slice none 0 0)] 24 (0, 0))) ∧ Aside0 (Below w.heap.size w wc))
  case first =>
    have H := HC5.out
    clear HC5
    by_cases c8 : a3 > 2199023255552
    · rw [if_pos c8] at H
      have c8b0 : decide (2199023255552 < a3) = true := decide_eq_true c8
      clear c8
      (first | rw [c8b0] | (simp only [i64_w, i32_w]; rw [c8b0]) | skip)
      have H' := Aside0.mk H
      clear H
      go_wp2
      go_meet
      case rel => exact ⟨_, (true), (by first | rfl | (simp; done) | (simp [*]; done)), H', ⟨by first | omega | exact Nat.le_refl _⟩, ⟨by (with_reducible repeat (first | apply Kd.V_alloc | apply Kd.V_drewN | apply Kd.V_drew)); exact Kd.V_mono HO0_1.out (fun _ hk => ⟨hk.1.1, ⟨hk.1.2, hk.2⟩⟩)⟩, ⟨by (with_reducible repeat (first | refine blk_drewN ?_ _ | refine blk_drew ?_ | refine blk_alloc ?_ _)); exact BK508.out⟩, ⟨by (with_reducible repeat (first | refine blk_drewN ?_ _ | refine blk_drew ?_ | refine blk_alloc ?_ _)); exact BK509.out⟩, ⟨HB_⟩⟩
    rw [if_neg c8] at H
    have c8b0 : decide (2199023255552 < a3) = false := decide_eq_false c8
    clear c8
    (first | rw [c8b0] | (simp only [i64_w, i32_w]; rw [c8b0]) | skip)
    by_cases c9 : a3 < (-2199023255552)
    · rw [if_pos c9] at H
      have c9b0 : decide (a3 < (-2199023255552)) = true := decide_eq_true c9
      clear c9
      have H' := Aside0.mk H
      clear H
      go_wp2
      go_meet
      case rel => exact ⟨_, (true), (by first | rfl | (simp; done) | (simp [*]; done)), H', ⟨by first | omega | exact Nat.le_refl _⟩, ⟨by (with_reducible repeat (first | apply Kd.V_alloc | apply Kd.V_drewN | apply Kd.V_drew)); exact Kd.V_mono HO0_1.out (fun _ hk => ⟨hk.1.1, ⟨hk.1.2, hk.2⟩⟩)⟩, ⟨by (with_reducible repeat (first | refine blk_drewN ?_ _ | refine blk_drew ?_ | refine blk_alloc ?_ _)); exact BK508.out⟩, ⟨by (with_reducible repeat (first | refine blk_drewN ?_ _ | refine blk_drew ?_ | refine blk_alloc ?_ _)); exact BK509.out⟩, ⟨HB_⟩⟩
    rw [if_neg c9] at H
    have c9b0 : decide (a3 < (-2199023255552)) = false := decide_eq_false c9
    clear c9
    have H' := Aside0.mk H
    clear H
    have hnb10 := NB508_509.out
    have hnc10 := NB509_508.out
    obtain ⟨hcz11_0, hcz11_1, hfz11_0, hfz11_1⟩ := cz2_ BK508
    go_wp2
    go_meet
    case rel => exact ⟨_, (((l0_1.length : Int) == 0)), (by first | rfl | (simp; done) | (simp [*]; done)), H', ⟨by first | omega | exact Nat.le_refl _⟩, ⟨by (with_reducible repeat (first | apply Kd.V_alloc | apply Kd.V_drewN | apply Kd.V_drew)); exact Kd.V_mono HO0_1.out (fun _ hk => ⟨hk.1.1, ⟨hk.1.2, hk.2⟩⟩)⟩, ⟨by (with_reducible repeat (first | refine blk_drewN ?_ _ | refine blk_drew ?_ | refine blk_alloc ?_ _)); exact BK508.out⟩, ⟨by (with_reducible repeat (first | refine blk_drewN ?_ _ | refine blk_drew ?_ | refine blk_alloc ?_ _)); exact BK509.out⟩, ⟨HB_⟩⟩
  case rest =>
    clear HC5
    try clear c1
    try clear p2
    try clear c3
    try clear c8
    try clear c8b0
    try clear c9
    try clear c9b0
    try clear c10
    try clear hcz11_0
    try clear hcz11_1
    try clear hfz11_0
    try clear hfz11_1
    obtain ⟨kq, x23_4, rfl, HA, HJ4, HO_509001, BK508, BK509, HB⟩ := hcut
    cases kq with
    | zero => exact absurd HA.out (by simp [warrantorref09_Let.j0])
    | succ kj4 =>
      have H := HA.out
      clear HA
      simp only [warrantorref09_Let.j0] at H
      by_cases c12 : x23_4 = true
      · subst c12
        have H1 : (some (a0_0, ([] : List Int))) = some (r1, r2) := by rw [if_pos rfl] at H; exact H
        clear H
        have H := H1
        clear H1
        simp only [Option.some.injEq, Prod.mk.injEq] at H
        obtain ⟨rfl, rfl⟩ := H
        have hnb13 := NB508_509.out
        have hnc13 := NB509_508.out
        obtain ⟨hcz14_0, hcz14_1, hfz14_0, hfz14_1⟩ := cz2_ BK508
        obtain ⟨hcz15_0, hcz15_1, hfz15_0, hfz15_1⟩ := cz2_ BK509
        go_wp2
        refine bodyPost_ret (results_cell_row rfl _ _ gb509 24 #[.int .i64 a0_0, .slice none 0 0] (0, 0) _ rfl (bk2_ BK509.out) Try.underlying24 rfl (by kernel_rfl)) rfl ?_
        exact ⟨_, by first | rfl | (simp [errW_none, errW_some] <;> rfl) | (simp [*, errW_none, errW_some] <;> rfl), Kd.V_nil _ _ _ _ _, HB_⟩
      replace c12 := Bool.eq_false_iff.mpr c12
      subst c12
      have H1 : (if a1 = a2 then ((some (([] : List Int) : List Int)).bind fun y522 => (if y522.length + l0_1.length < 17592186044416 then (warrantorref09_Let.l0 kj4 a1 a3 (wrap64 (a0_0 + 1)) (y522 ++ l0_1) 0 a0_0 l0_1) else (none))) else ((warrantorref09_Forget.f kj4 a0_0 l0_1 a1).bind fun bt510 => ((warrantorref09_Limit.f kj4 bt510.1 bt510.2 a1 a2 a3).bind fun bt514 => ((warrantorref09_Limit.f kj4 bt514.1 bt514.2 a2 a1 (wrap64 (-a3))).bind fun bt518 => (some (bt518.1, bt518.2)))))) = some (r1, r2) := by rw [if_neg (show ¬ (false = true) by decide)] at H; exact H
      clear H
      have H := H1
      clear H1
      by_cases c16 : a1 = a2
      rotate_left
      · rw [if_neg c16] at H
        have c16b0 : (a1 == a2) = false := beq_eq_false_iff_ne.mpr c16
        have c16b1 : (a1 != a2) = true := bne_iff_ne.mpr c16
        replace H := Option.bind_eq_some_iff.mp H
        obtain ⟨⟨t510, t511⟩, A460, H⟩ := H
        replace H : ((warrantorref09_Limit.f kj4 t510 t511 a1 a2 a3).bind fun bt514 => ((warrantorref09_Limit.f kj4 bt514.1 bt514.2 a2 a1 (wrap64 (-a3))).bind fun bt518 => (some (bt518.1, bt518.2)))) = some (r1, r2) := H
        have A46 := Aside0.mk A460
        clear A460
        replace H := Option.bind_eq_some_iff.mp H
        obtain ⟨⟨t514, t515⟩, A470, H⟩ := H
        replace H : ((warrantorref09_Limit.f kj4 t514 t515 a2 a1 (wrap64 (-a3))).bind fun bt518 => (some (bt518.1, bt518.2))) = some (r1, r2) := H
        have A47 := Aside0.mk A470
        clear A470
        replace H := Option.bind_eq_some_iff.mp H
        obtain ⟨⟨t518, t519⟩, A480, H⟩ := H
        replace H : (some (t518, t519)) = some (r1, r2) := H
        have A48 := Aside0.mk A480
        clear A480
        simp only [Option.some.injEq, Prod.mk.injEq] at H
        obtain ⟨rfl, rfl⟩ := H
        have hnb49 := NB508_509.out
        have hnc49 := NB509_508.out
        obtain ⟨hcz50_0, hcz50_1, hfz50_0, hfz50_1⟩ := cz2_ BK508
        go_wp2_with (first | ((with_reducible refine gate_callee (f := 31) rfl ?_); refine goesL_ (some 32) rfl rfl Try.func31 (by kernel_rfl) rfl #[.agg #[.int .i64 a0_0, .slice A0_1 l0_1.length c0_1], .int .i64 a1] rfl MP_ ?_; (with_reducible refine (warrantorref09_Forget.calls kj4 a0_0 (fun k_ => ((P0_1_ k_ ∨ w.heap.size ≤ k_) ∧ (k_ ≠ gb508 ∧ k_ ≠ gb509))) _ _ l0_1 a1 t510 t511 _ ?side1 A46.out).mono ?_); (case side1 => exact HO_509001.out); rintro e w51 ⟨v512, rfl, ho0, hb⟩; refine ⟨_, rfl, ?_⟩; have n_ := a_ (Aside0.mk (Kd.V_below (by (with_reducible repeat (first | apply Kd.V_alloc | apply Kd.V_drewN | apply Kd.V_drew)); exact HO_509001.out) hb)) (a_ (Aside0.mk (Kd.V_lower (Kd.V_mono (ok' := fun k_ => (P0_1_ k_ ∨ w.heap.size ≤ k_) ∧ k_ ≠ gb508 ∧ k_ ≠ gb509) ho0 (fun k_ hk_ => ⟨Or.elim hk_ (fun hs_ => hs_.1) (fun hn_ => (.inr (Nat.le_trans (below_size HB_) hn_))), Or.elim hk_ (fun hs_ => hs_.2.1) (fun hn_ => (Kd.freshB (g := gb508) (o := .cells #[.int .i64 a0_0, .slice A0_1 l0_1.length c0_1] 24 (0, 0)) (bk_ BK508.out) k_ hn_)), Or.elim hk_ (fun hs_ => hs_.2.2) (fun hn_ => (Kd.freshB (g := gb509) (o := .cells #[.int .i64 0, .slice none 0 0] 24 (0, 0)) (bk_ BK509.out) k_ hn_))⟩)) (below_size HB_))) (a_ (bb_ BK508 hb) (a_ (bb_ BK509 hb) (bs_ HB hb)))); clear HO_509001 BK508 BK509 HB; obtain ⟨HO_509001, HO513, BK508, BK509, HB⟩ := n_; (try clear hb); (try clear hb2); (try clear hk); (try clear hi); (try clear ho0); obtain ⟨Ao52, co52, eo52⟩ := Kd.V_slice HO513.out; subst eo52) | ((with_reducible refine gate_callee (f := 32) rfl ?_); refine goesL_ (some 36) rfl rfl Try.func32 (by kernel_rfl) rfl #[.agg #[.int .i64 t510, .slice Ao52 t511.length co52], .int .i64 a1, .int .i64 a2, .int .i64 a3] rfl MP_ ?_; (with_reducible refine (warrantorref09_Limit.calls kj4 t510 (fun k_ => ((P0_1_ k_ ∨ w.heap.size ≤ k_) ∧ (k_ ≠ gb508 ∧ k_ ≠ gb509))) _ _ t511 a1 a2 a3 t514 t515 _ ?side1 A47.out).mono ?_); (case side1 => exact HO513.out); rintro e w53 ⟨v516, rfl, ho0, hb⟩; refine ⟨_, rfl, ?_⟩; have n_ := a_ (Aside0.mk (Kd.V_below (by (with_reducible repeat (first | apply Kd.V_alloc | apply Kd.V_drewN | apply Kd.V_drew)); exact HO_509001.out) hb)) (a_ (Aside0.mk (Kd.V_below (by (with_reducible repeat (first | apply Kd.V_alloc | apply Kd.V_drewN | apply Kd.V_drew)); exact HO513.out) hb)) (a_ (Aside0.mk (Kd.V_lower (Kd.V_mono (ok' := fun k_ => (P0_1_ k_ ∨ w.heap.size ≤ k_) ∧ k_ ≠ gb508 ∧ k_ ≠ gb509) ho0 (fun k_ hk_ => ⟨Or.elim hk_ (fun hs_ => hs_.1) (fun hn_ => (.inr (Nat.le_trans (below_size HB_) hn_))), Or.elim hk_ (fun hs_ => hs_.2.1) (fun hn_ => (Kd.freshB (g := gb508) (o := .cells #[.int .i64 a0_0, .slice A0_1 l0_1.length c0_1] 24 (0, 0)) (bk_ BK508.out) k_ hn_)), Or.elim hk_ (fun hs_ => hs_.2.2) (fun hn_ => (Kd.freshB (g := gb509) (o := .cells #[.int .i64 0, .slice none 0 0] 24 (0, 0)) (bk_ BK509.out) k_ hn_))⟩)) (below_size HB_))) (a_ (bb_ BK508 hb) (a_ (bb_ BK509 hb) (bs_ HB hb))))); clear HO_509001 HO513 BK508 BK509 HB; obtain ⟨HO_509001, HO513, HO517, BK508, BK509, HB⟩ := n_; (try clear hb); (try clear hb2); (try clear hk); (try clear hi); (try clear ho0); obtain ⟨Ao54, co54, eo54⟩ := Kd.V_slice HO517.out; subst eo54; (try clear A47)) | ((with_reducible refine gate_callee (f := 32) rfl ?_); refine goesL_ (some 41) rfl rfl Try.func32 (by kernel_rfl) rfl #[.agg #[.int .i64 t514, .slice Ao54 t515.length co54], .int .i64 a2, .int .i64 a1, .int .i64 (wrap64 (-a3))] rfl MP_ ?_; (with_reducible refine (warrantorref09_Limit.calls kj4 t514 (fun k_ => ((P0_1_ k_ ∨ w.heap.size ≤ k_) ∧ (k_ ≠ gb508 ∧ k_ ≠ gb509))) _ _ t515 a2 a1 (wrap64 (-a3)) t518 t519 _ ?side1 A48.out).mono ?_); (case side1 => exact HO517.out); rintro e w55 ⟨v520, rfl, ho0, hb⟩; refine ⟨_, rfl, ?_⟩; have n_ := a_ (Aside0.mk (Kd.V_below (by (with_reducible repeat (first | apply Kd.V_alloc | apply Kd.V_drewN | apply Kd.V_drew)); exact HO_509001.out) hb)) (a_ (Aside0.mk (Kd.V_below (by (with_reducible repeat (first | apply Kd.V_alloc | apply Kd.V_drewN | apply Kd.V_drew)); exact HO513.out) hb)) (a_ (Aside0.mk (Kd.V_below (by (with_reducible repeat (first | apply Kd.V_alloc | apply Kd.V_drewN | apply Kd.V_drew)); exact HO517.out) hb)) (a_ (Aside0.mk (Kd.V_lower (Kd.V_mono (ok' := fun k_ => (P0_1_ k_ ∨ w.heap.size ≤ k_) ∧ k_ ≠ gb508 ∧ k_ ≠ gb509) ho0 (fun k_ hk_ => ⟨Or.elim hk_ (fun hs_ => hs_.1) (fun hn_ => (.inr (Nat.le_trans (below_size HB_) hn_))), Or.elim hk_ (fun hs_ => hs_.2.1) (fun hn_ => (Kd.freshB (g := gb508) (o := .cells #[.int .i64 a0_0, .slice A0_1 l0_1.length c0_1] 24 (0, 0)) (bk_ BK508.out) k_ hn_)), Or.elim hk_ (fun hs_ => hs_.2.2) (fun hn_ => (Kd.freshB (g := gb509) (o := .cells #[.int .i64 0, .slice none 0 0] 24 (0, 0)) (bk_ BK509.out) k_ hn_))⟩)) (below_size HB_))) (a_ (bb_ BK508 hb) (a_ (bb_ BK509 hb) (bs_ HB hb)))))); clear HO_509001 HO513 HO517 BK508 BK509 HB; obtain ⟨HO_509001, HO513, HO517, HO521, BK508, BK509, HB⟩ := n_; (try clear hb); (try clear hb2); (try clear hk); (try clear hi); (try clear ho0); obtain ⟨hcz56_0, hcz56_1, hfz56_0, hfz56_1⟩ := cz2_ BK509; obtain ⟨Ao57, co57, eo57⟩ := Kd.V_slice HO521.out; subst eo57))
        refine bodyPost_ret (results_cell_row rfl _ _ gb509 24 #[.int .i64 t518, .slice Ao57 t519.length co57] (0, 0) _ rfl (bk2_ BK509.out) Try.underlying24 rfl (by kernel_rfl)) rfl ?_
        exact ⟨_, by first | rfl | (simp [errW_none, errW_some] <;> rfl) | (simp [*, errW_none, errW_some] <;> rfl), by (with_reducible repeat (first | apply Kd.V_alloc | apply Kd.V_drewN | apply Kd.V_drew)); exact Kd.V_mono (Kd.V_far (p := ⟨gb509, 1, none⟩) (Kd.V_far (p := ⟨gb509, 0, none⟩) (Kd.V_mono HO521.out (fun k_ hk => (⟨hk, hk.2.2⟩ : _ ∧ k_ ≠ gb509))) (fun _ hk => hk.2) (.int .i64 t518)) (fun _ hk => hk.2) (.slice Ao57 t519.length co57)) (fun _ hk => hk.1.1), HB_⟩

      rw [if_pos c16] at H
      have c16b0 : (a1 == a2) = true := beq_iff_eq.mpr c16
      have c16b1 : (a1 != a2) = false := bne_eq_false_iff_eq.mpr c16
      clear c16
      obtain ⟨y522, hy522⟩ : ∃ y_ : List Int, y_ = (([] : List Int)) := ⟨_, rfl⟩
      replace H : (if y522.length + l0_1.length < 17592186044416 then (warrantorref09_Let.l0 kj4 a1 a3 (wrap64 (a0_0 + 1)) (y522 ++ l0_1) 0 a0_0 l0_1) else (none)) = some (r1, r2) := by first | (rw [hy522]; with_reducible exact H) | (have H2_ := (Option.bind_some _ _).symm.trans H; rw [hy522]; with_reducible exact H2_) | (have H2_ := (Option.bind_some _ _).symm.trans H; with_reducible exact H2_) | with_reducible exact H | (rw [hy522]; exact H) | exact H
      have Ny522 := Aside0.mk hy522
      clear hy522
      replace H := yes_ H
      obtain ⟨c17, H⟩ := H
      have LMc17 := Aside0.mk c17
      clear c17
      obtain ⟨y525, hy525⟩ : ∃ y_ : List Int, y_ = (y522 ++ l0_1) := ⟨_, rfl⟩
      replace H : (warrantorref09_Let.l0 kj4 a1 a3 (wrap64 (a0_0 + 1)) y525 0 a0_0 l0_1) = some (r1, r2) := by first | (rw [hy525]; with_reducible exact H) | (have H2_ := (Option.bind_some _ _).symm.trans H; rw [hy525]; with_reducible exact H2_) | (have H2_ := (Option.bind_some _ _).symm.trans H; with_reducible exact H2_) | with_reducible exact H | (rw [hy525]; exact H) | exact H
      have Ny525 := Aside0.mk hy525
      clear hy525
      have H' := Aside0.mk H
      clear H
      have hnb18 := NB508_509.out
      have hnc18 := NB509_508.out
      obtain ⟨hcz19_0, hcz19_1, hfz19_0, hfz19_1⟩ := cz2_ BK508
      go_wp2_with (first | ((with_reducible refine gate_dst (N := 45) rfl ?_); (try (refine gate_guard (by rfl) ?_; dsimp only)); refine Kd.R_lit (Kd.int .i64) _ 3 ?hg (N := 45) ?hd (xs := ([] : List Int)) (inner := []) (ok := fun _ => True) (okp := fun _ => True) ?hr ?hp (fun _ hk => hk) trivial (Below.refl _ _) (Nat.le_refl _) (by simp) ?_; (case hd => rfl); (case hg => rfl); (case hr => first | (go_simp; done) | (go_simp; rfl)); (case hp => exact (Reps.none _ _)); intro v523 w20 ho21 hb hg_ hnew_; clear hg_ hnew_; (first | rw [← Ny522.out] at ho21 | (simp only [Int.reduceToNat] at ho21; rw [← Ny522.out] at ho21)); have n_ := a_ (Aside0.mk (Kd.V_elder' (by (with_reducible repeat (first | apply Kd.V_alloc | apply Kd.V_drewN | apply Kd.V_drew)); exact HO_509001.out) (Kd.R_base ho21) hb)) (a_ (Aside0.mk (Kd.R_lower (Kd.R_newM (M := fun k_ => (w.heap.size ≤ k_)) ho21 (below_size HB_) (fun k_ h_ => h_)) (below_size HB_))) (a_ (bb_ BK508 hb) (a_ (bb_ BK509 hb) (bs_ HB hb)))); clear HO_509001 BK508 BK509 HB; obtain ⟨HO_509001, HO524, BK508, BK509, HB⟩ := n_; clear hb ho21; obtain ⟨hcz22_0, hcz22_1, hfz22_0, hfz22_1⟩ := cz2_ BK508) | ((with_reducible refine gate_builtin (b := .append) (xs := #[.tmp 45, .tmp 47]) rfl ?_); (try (refine gate_guard (by rfl) ?_; dsimp only)); at_builtin; refine Kd.R_append_rows (Kd.int .i64) (w0 := w) w.heap.size rfl (.tmp 45) (.tmp 47) 22 3 (.int .i64 0) 8 rfl Try.underlying22 info3 rfl (by decide) (by omega) v523 y522 l0_1 _ _ _ (fun k_ => (w.heap.size ≤ k_)) (fun _ => False) rfl rfl ?aO ?aR (fun _ _ h => h) (fun _ h => h.elim) ?aF ?aB ?aS ?aL ?_; (case aR => repeat (first | exact (Kd.V_reads' HO_509001.out).2.2 | (with_reducible refine Kd.C_alloc ?_ _) | (with_reducible refine Kd.C_drewN ?_ _) | (with_reducible refine Kd.C_drew ?_))); (case aB => exact HB_); (case aF => exact (fun k_ hk => (Nat.le_trans (below_size HB_) hk))); (case aO => exact (rd_ (Kd.R_mono HO524.out (fun _ hk => hk.1)))); (case aS => exact (below_size HB_)); (case aL => have := LMc17.out; omega); intro v526 w23 ho hb hg hat; rw [← Ny525.out] at ho; have n_ := a_ (Aside0.mk (Kd.V_afterv (ok := (fun k_ => (P0_1_ k_ ∨ w.heap.size ≤ k_) ∧ k_ ≠ gb508 ∧ k_ ≠ gb509)) (by (with_reducible repeat (first | apply Kd.V_alloc | apply Kd.V_drewN | apply Kd.V_drew)); exact HO_509001.out) hg hat)) (a_ (Aside0.mk (blk_grown (g := gb508) (o := .cells #[.int .i64 a0_0, .slice A0_1 l0_1.length c0_1] 24 (0, 0)) (bk_ BK508.out) hg (Kd.R_ne HO524.out BK508.out (by decide)))) (a_ (Aside0.mk (blk_grown (g := gb509) (o := .cells #[.int .i64 0, .slice none 0 0] 24 (0, 0)) (bk_ BK509.out) hg (Kd.R_ne HO524.out BK509.out (by decide)))) (a_ (Aside0.mk hb) (Aside0.mk ho)))); clear HO_509001 BK508 BK509 HB HO524; obtain ⟨HO_509001, BK508, BK509, HB, HO527⟩ := n_; clear ho hb hg hat))
      go_loopg [11] kj4 (fun kq v11 w' => ∃ (x10_2 : List Int) (x11_2 : Int), v11 = .int .i64 x11_2 ∧ Aside0 (warrantorref09_Let.l0 kq a1 a3 (wrap64 (a0_0 + 1)) x10_2 x11_2 a0_0 l0_1 = some (r1, r2)) ∧ Aside0 (kq ≤ kj4) ∧ Aside0 (Kd.R (Kd.int .i64) 3 w' w.heap.size (fun k_ => (w.heap.size ≤ k_)) v526 x10_2) ∧ Aside0 (Kd.V (Kd.int .i64) 3 w' w.heap.size (fun k_ => (P0_1_ k_ ∨ w.heap.size ≤ k_) ∧ some k_ ≠ (v526 : Value).ownBlock ∧ k_ ≠ gb508 ∧ k_ ≠ gb509) (.slice A0_1 l0_1.length c0_1) l0_1) ∧ Aside0 (w'.heap[gb508]? = some (.cells #[.int .i64 a0_0, (.slice A0_1 l0_1.length c0_1)] 24 (0, 0))) ∧ Aside0 (w'.heap[gb509]? = some (.cells #[.int .i64 0, (.slice none 0 0)] 24 (0, 0))) ∧ Aside0 (Below w.heap.size w w'))
      case atStart => exact ⟨(y525), (0), (by first | rfl | (simp; done) | (simp [*]; done)), H', ⟨Nat.le_refl _⟩, ⟨by (with_reducible repeat (first | apply Kd.R_alloc | apply Kd.R_drewN | apply Kd.R_drew)); exact HO527.out⟩, ⟨by (with_reducible repeat (first | apply Kd.V_alloc | apply Kd.V_drewN | apply Kd.V_drew)); exact Kd.V_mono HO_509001.out (fun _ hk => ⟨hk.1.1, ⟨hk.2, ⟨hk.1.2.1, hk.1.2.2⟩⟩⟩)⟩, ⟨by (with_reducible repeat (first | refine blk_drewN ?_ _ | refine blk_drew ?_ | refine blk_alloc ?_ _)); exact BK508.out⟩, ⟨by (with_reducible repeat (first | refine blk_drewN ?_ _ | refine blk_drew ?_ | refine blk_alloc ?_ _)); exact BK509.out⟩, ⟨HB_⟩⟩
      case round =>
        clear H'
        try clear c1
        try clear p2
        try clear c3
        try clear p6
        try clear c8
        try clear c8b0
        try clear c9
        try clear c9b0
        try clear c10
        try clear c12
        try clear c13
        try clear c16
        try clear c16b0
        try clear c16b1
        try clear c17
        try clear c18
        try clear hcz11_0
        try clear hcz11_1
        try clear hcz14_0
        try clear hcz14_1
        try clear hcz15_0
        try clear hcz15_1
        try clear hcz19_0
        try clear hcz19_1
        try clear hcz22_0
        try clear hcz22_1
        try clear hfz11_0
        try clear hfz11_1
        try clear hfz14_0
        try clear hfz14_1
        try clear hfz15_0
        try clear hfz15_1
        try clear hfz19_0
        try clear hfz19_1
        try clear hfz22_0
        try clear hfz22_1
        try clear p2
        obtain ⟨x10_2, x11_2, rfl, HA, HK2, HO_10, HO_509001, BK508, BK509, HB⟩ := hrel
        cases gk with
        | zero => exact absurd HA.out (by simp [warrantorref09_Let.l0])
        | succ k2 =>
          have H := HA.out
          clear HA
          simp only [warrantorref09_Let.l0] at H
          by_cases c24 : x11_2 < (wrap64 (a0_0 + 1))
          rotate_left
          · rw [if_neg c24] at H
            have c24b0 : decide (x11_2 < (wrap64 (a0_0 + 1))) = false := decide_eq_false c24
            have c24b0v : decide (x11_2 < (IntKind.i64.wrap (a0_0 + 1))) = false := by (try simp only [i64_w]); exact c24b0
            clear c24
            replace H := Option.bind_eq_some_iff.mp H
            obtain ⟨⟨t532, t533⟩, A390, H⟩ := H
            replace H : (some (t532, t533)) = some (r1, r2) := H
            have A39 := Aside0.mk A390
            clear A390
            simp only [Option.some.injEq, Prod.mk.injEq] at H
            obtain ⟨rfl, rfl⟩ := H
            have hnb40 := NB508_509.out
            have hnc40 := NB509_508.out
            obtain ⟨hcz41_0, hcz41_1, hfz41_0, hfz41_1⟩ := cz2_ BK508
            obtain ⟨Ao42, co42, eo42⟩ := Kd.R_slice HO_10.out
            subst eo42
            go_wp2_with (first | ((with_reducible refine gate_callee (f := 76) rfl ?_); refine goesL_ (some 94) rfl rfl Try.func76 (by kernel_rfl) rfl #[.int .i64 a0_0, .slice Ao42 x10_2.length co42] rfl MP_ ?_; (with_reducible refine (warrantorref08_Close.calls k2 a0_0 _ _ x10_2 t532 t533 _ ?side1 ?side2 A39.out).mono ?_); (case side1 => repeat (first | exact (Kd.R_reads' HO_10.out).2.2 | (with_reducible refine Kd.C_alloc ?_ _) | (with_reducible refine Kd.C_drewN ?_ _) | (with_reducible refine Kd.C_drew ?_))); (case side2 => exact (Kd.R_reads' HO_10.out).2.1); rintro e w43 ⟨v534, rfl, ho0, hb⟩; refine ⟨_, rfl, ?_⟩; have n_ := a_ (Aside0.mk (Kd.R_elder' (rd_ HO_10.out) (Kd.R_base ho0) hb)) (a_ (Aside0.mk (Kd.V_elder' (by (with_reducible repeat (first | apply Kd.V_alloc | apply Kd.V_drewN | apply Kd.V_drew)); exact HO_509001.out) (Kd.R_base ho0) hb)) (a_ (Aside0.mk (Kd.R_lower (Kd.R_new' (Kd.R_newM (M := fun k_ => (w.heap.size ≤ k_)) ho0 (below_size HB_) (fun k_ h_ => h_)) (Kd.R_lt (rd_ HO_10.out))) (below_size HB_))) (a_ (bb_ BK508 hb) (a_ (bb_ BK509 hb) (bs_ HB hb))))); clear HO_10 HO_509001 BK508 BK509 HB; obtain ⟨HO_10, HO_509001, HO535, BK508, BK509, HB⟩ := n_; (try clear hb); (try clear hb2); (try clear hk); (try clear hi); (try clear ho0); obtain ⟨hcz44_0, hcz44_1, hfz44_0, hfz44_1⟩ := cz2_ BK509; obtain ⟨Ao45, co45, eo45⟩ := Kd.R_slice HO535.out; subst eo45))
            refine bodyPost_ret (results_cell_row rfl _ _ gb509 24 #[.int .i64 t532, .slice Ao45 t533.length co45] (0, 0) _ rfl (bk2_ BK509.out) Try.underlying24 rfl (by kernel_rfl)) rfl ?_
            exact ⟨_, by first | rfl | (simp [errW_none, errW_some] <;> rfl) | (simp [*, errW_none, errW_some] <;> rfl), Kd.V_mono (Kd.R_V (rd_ (Kd.R_mono (Kd.R_far (p := ⟨gb509, 1, none⟩) (Kd.R_far (p := ⟨gb509, 0, none⟩) (Kd.R_types HO535.out BK509.out (by decide)) (fun _ hk => hk.2) (.int .i64 t532)) (fun _ hk => hk.2) (.slice Ao45 t533.length co45)) (fun _ hk => hk.1.1.1)))) (fun k_ hk => by first | exact ⟨(.inr (hk.1)), hk.2⟩ | exact (.inr (hk))), HB_⟩
          rw [if_pos c24] at H
          have c24b0 : decide (x11_2 < (wrap64 (a0_0 + 1))) = true := decide_eq_true c24
          have c24b0v : decide (x11_2 < (IntKind.i64.wrap (a0_0 + 1))) = true := by (try simp only [i64_w]); exact c24b0
          clear c24
          by_cases c25 : x11_2 = a1
          · rw [if_pos c25] at H
            have c25b0 : (x11_2 == a1) = true := beq_iff_eq.mpr c25
            have c25b1 : (x11_2 != a1) = false := bne_eq_false_iff_eq.mpr c25
            clear c25
            have H' := Aside0.mk H
            clear H
            go_wp2
            go_roundg k2
            case measure => have := HJ4.out; have := HK2.out; omega
            case rel => exact ⟨(x10_2), (wrap64 (x11_2 + 1)), (by first | rfl | (simp; done) | (simp [*]; done)), H', ⟨by have := HJ4.out; have := HK2.out; omega⟩, ⟨by (with_reducible repeat (first | apply Kd.R_alloc | apply Kd.R_drewN | apply Kd.R_drew)); exact HO_10.out⟩, ⟨by (with_reducible repeat (first | apply Kd.V_alloc | apply Kd.V_drewN | apply Kd.V_drew)); exact HO_509001.out⟩, ⟨by (with_reducible repeat (first | refine blk_drewN ?_ _ | refine blk_drew ?_ | refine blk_alloc ?_ _)); exact BK508.out⟩, ⟨by (with_reducible repeat (first | refine blk_drewN ?_ _ | refine blk_drew ?_ | refine blk_alloc ?_ _)); exact BK509.out⟩, ⟨HB_⟩⟩
          rw [if_neg c25] at H
          have c25b0 : (x11_2 == a1) = false := beq_eq_false_iff_ne.mpr c25
          have c25b1 : (x11_2 != a1) = true := bne_iff_ne.mpr c25
          obtain ⟨ji26, hji26⟩ : ∃ j_ : Int, (wrap64 ((wrap64 (a1 * (wrap64 (a0_0 + 1)))) + x11_2)) = j_ := ⟨_, rfl⟩
          replace H : (if 0 ≤ (ji26) then (if (ji26) < (x10_2.length : Int) then ((some (x10_2.set ((ji26) : Int).toNat (wrap64 ((rd x10_2 (ji26)) + a3)) : List Int)).bind fun y529 => (if 0 ≤ (wrap64 ((wrap64 (x11_2 * (wrap64 (a0_0 + 1)))) + a1)) then (if (wrap64 ((wrap64 (x11_2 * (wrap64 (a0_0 + 1)))) + a1)) < (x10_2.length : Int) then (warrantorref09_Let.l0 k2 a1 a3 (wrap64 (a0_0 + 1)) (y529.set ((wrap64 ((wrap64 (x11_2 * (wrap64 (a0_0 + 1)))) + a1)) : Int).toNat (wrap64 ((rd y529 (wrap64 ((wrap64 (x11_2 * (wrap64 (a0_0 + 1)))) + a1))) - a3))) (wrap64 (x11_2 + 1)) a0_0 l0_1) else (none)) else (none))) else (none)) else (none)) = some (r1, r2) := by first | (rw [hji26] at H; exact H) | (simp only [hji26] at H ⊢; exact H)
          have hji26w : (IntKind.i64.wrap ((wrap64 (a1 * (wrap64 (a0_0 + 1)))) + x11_2)) = ji26 := (i64_w _).trans hji26
          have hji26v : (IntKind.i64.wrap ((IntKind.i64.wrap (a1 * (IntKind.i64.wrap (a0_0 + 1)))) + x11_2)) = ji26 := by (try simp only [i64_w]); first | exact hji26 | exact hji26w
          replace H := yes_ H
          obtain ⟨c27, H⟩ := H
          have c27b0 : decide (0 ≤ (ji26)) = true := decide_eq_true c27
          clear c27
          replace H := yes_ H
          obtain ⟨c28, H⟩ := H
          have c28b0 : decide ((ji26) < (x10_2.length : Int)) = true := decide_eq_true c28
          clear c28
          obtain ⟨y529, hy529⟩ : ∃ y_ : List Int, y_ = (x10_2.set ((ji26) : Int).toNat (wrap64 ((rd x10_2 (ji26)) + a3))) := ⟨_, rfl⟩
          replace H : (if 0 ≤ (wrap64 ((wrap64 (x11_2 * (wrap64 (a0_0 + 1)))) + a1)) then (if (wrap64 ((wrap64 (x11_2 * (wrap64 (a0_0 + 1)))) + a1)) < (x10_2.length : Int) then (warrantorref09_Let.l0 k2 a1 a3 (wrap64 (a0_0 + 1)) (y529.set ((wrap64 ((wrap64 (x11_2 * (wrap64 (a0_0 + 1)))) + a1)) : Int).toNat (wrap64 ((rd y529 (wrap64 ((wrap64 (x11_2 * (wrap64 (a0_0 + 1)))) + a1))) - a3))) (wrap64 (x11_2 + 1)) a0_0 l0_1) else (none)) else (none)) = some (r1, r2) := by first | (rw [hy529]; with_reducible exact H) | (have H2_ := (Option.bind_some _ _).symm.trans H; rw [hy529]; with_reducible exact H2_) | (have H2_ := (Option.bind_some _ _).symm.trans H; with_reducible exact H2_) | with_reducible exact H | (rw [hy529]; exact H) | exact H
          have Ny529 := Aside0.mk hy529
          clear hy529
          obtain ⟨ji30, hji30⟩ : ∃ j_ : Int, (wrap64 ((wrap64 (x11_2 * (wrap64 (a0_0 + 1)))) + a1)) = j_ := ⟨_, rfl⟩
          replace H : (if 0 ≤ (ji30) then (if (ji30) < (x10_2.length : Int) then (warrantorref09_Let.l0 k2 a1 a3 (wrap64 (a0_0 + 1)) (y529.set ((ji30) : Int).toNat (wrap64 ((rd y529 (ji30)) - a3))) (wrap64 (x11_2 + 1)) a0_0 l0_1) else (none)) else (none)) = some (r1, r2) := by first | (rw [hji30] at H; exact H) | (simp only [hji30] at H ⊢; exact H)
          have hji30w : (IntKind.i64.wrap ((wrap64 (x11_2 * (wrap64 (a0_0 + 1)))) + a1)) = ji30 := (i64_w _).trans hji30
          have hji30v : (IntKind.i64.wrap ((IntKind.i64.wrap (x11_2 * (IntKind.i64.wrap (a0_0 + 1)))) + a1)) = ji30 := by (try simp only [i64_w]); first | exact hji30 | exact hji30w
          replace H := yes_ H
          obtain ⟨c31, H⟩ := H
          have c31b0 : decide (0 ≤ (ji30)) = true := decide_eq_true c31
          clear c31
          replace H := yes_ H
          obtain ⟨c32, H⟩ := H
          have c32b0 : decide ((ji30) < (x10_2.length : Int)) = true := decide_eq_true c32
          clear c32
          obtain ⟨y531, hy531⟩ : ∃ y_ : List Int, y_ = (y529.set ((ji30) : Int).toNat (wrap64 ((rd y529 (ji30)) - a3))) := ⟨_, rfl⟩
          replace H : (warrantorref09_Let.l0 k2 a1 a3 (wrap64 (a0_0 + 1)) y531 (wrap64 (x11_2 + 1)) a0_0 l0_1) = some (r1, r2) := by first | (rw [hy531]; with_reducible exact H) | (have H2_ := (Option.bind_some _ _).symm.trans H; rw [hy531]; with_reducible exact H2_) | (have H2_ := (Option.bind_some _ _).symm.trans H; with_reducible exact H2_) | with_reducible exact H | (rw [hy531]; exact H) | exact H
          have Ny531 := Aside0.mk hy531
          clear hy531
          have H' := Aside0.mk H
          clear H
          obtain ⟨Ao34, co34, eo34⟩ := Kd.R_slice HO_10.out
          subst eo34
          have p528 : 0 ≤ ((ji26) : Int) := of_decide_eq_true (by first | (with_reducible assumption) | assumption)
          have q528 : (ji26) < (x10_2.length : Int) := of_decide_eq_true (by first | (with_reducible assumption) | assumption)
          obtain ⟨ad528, e528, hx528_0⟩ := Kd.at_int (Kd.R_reads' HO_10.out).2.2 (ji26) p528 q528
          cases e528
          replace p528 := eq_true p528
          replace q528 := eq_true q528
          have p29 : 0 ≤ ((ji26) : Int) := of_decide_eq_true (by first | (with_reducible assumption) | assumption)
          have q29 : ((ji26) : Int) < ((x10_2.length : Int) : Int) := of_decide_eq_true (by first | (with_reducible assumption) | assumption)
          obtain ⟨go29, co29, eo29, gb29, gl29, cl29, HG29⟩ := Kd.R_form HO_10.out (by omega)
          (first | cases eo29 | (injection eo29 with ea_ en_ ec_; (first | subst ea_ | (injection ea_ with ea_; subst ea_)); subst ec_; clear en_))
          have GB29 := Aside0.mk gb29
          have GG29 := Aside0.mk HG29
          clear gb29 gl29 HG29
          (first | simp only [add_plain] at hx528_0 | skip)
          obtain ⟨hx29_0, hf29_0⟩ := Kd.R_celln 0 HO_10.out ((ji26) : Int) p29 q29
          replace p29 := eq_true p29
          replace q29 := eq_true q29
          have HP35 := Kd.R_putg HO_10.out ((ji26) : Int) (wrap64 ((rd x10_2 (ji26)) + a3))
          go_wp2_with (first | ((with_reducible refine gate_store (t := 3) (p := 73) rfl ?_); refine store_event (t := 3) (p := 73) (v := ?vo_w36) (w1 := (wr.setCell ⟨go29, ((ji26) : Int).toNat, none⟩ (.int .i64 (wrap64 ((rd x10_2 (ji26)) + a3))))) ?hg ?ho ?hn ?hr ?_; (case ho => rfl); (case hg => rfl); (case hn => rfl); (case hr => first | (go_simp; done) | (go_simp; rfl)); intro w36 hw; have hg : wr.grownBy w36 (some go29) := (by rw [hw]; exact HP35.2); have hp_ : Kd.R (Kd.int .i64) 3 w36 w.heap.size (fun k_ => (w.heap.size ≤ k_)) (.slice (some ⟨go29, 0, none⟩) x10_2.length co34) y529 := (by rw [hw, Ny529.out]; exact HP35.1); clear HP35; have n_ := a_ (Aside0.mk hp_) (a_ (Aside0.mk (Kd.V_afterv (v := (.slice (some ⟨go29, 0, none⟩) x10_2.length co34)) (v1 := (.slice (some ⟨go29, 0, none⟩) x10_2.length co34)) (ok := (fun k_ => (P0_1_ k_ ∨ w.heap.size ≤ k_) ∧ k_ ≠ gb508 ∧ k_ ≠ gb509)) (by (with_reducible repeat (first | apply Kd.V_alloc | apply Kd.V_drewN | apply Kd.V_drew)); exact Kd.V_mono HO_509001.out (fun _ hk => ⟨⟨hk.1, ⟨hk.2.2.1, hk.2.2.2⟩⟩, hk.2.1⟩)) hg (.inl rfl))) (a_ (Aside0.mk (blk_grown (g := gb508) (o := .cells #[.int .i64 a0_0, .slice A0_1 l0_1.length c0_1] 24 (0, 0)) (bk_ BK508.out) hg (Kd.R_ne HO_10.out BK508.out (by decide)))) (a_ (Aside0.mk (blk_grown (g := gb509) (o := .cells #[.int .i64 0, .slice none 0 0] 24 (0, 0)) (bk_ BK509.out) hg (Kd.R_ne HO_10.out BK509.out (by decide)))) (Aside0.mk (by rw [hw]; exact below_set (HB.out) GB29.out : Below w.heap.size w w36))))); clear HO_10 HO_509001 BK508 BK509 HB; obtain ⟨HO_10, HO_509001, BK508, BK509, HB⟩ := n_; clear hg hw hp_; have p530 : 0 ≤ ((ji30) : Int) := of_decide_eq_true (by first | (with_reducible assumption) | assumption); have q530 : (ji30) < (y529.length : Int) := (by have h_ : ((ji30) : Int) < ((x10_2.length : Int) : Int) := of_decide_eq_true (by first | (with_reducible assumption) | assumption); first | (have e_ := (Kd.R_reads' HO_10.out).1; omega) | simpa only [Ny529.out, List.length_set] using h_); have ql530 : (((ji30) : Int) < ((x10_2.length : Int) : Int)) = True := eq_true (of_decide_eq_true (by first | (with_reducible assumption) | assumption)); obtain ⟨ad530, e530, hx530_0⟩ := Kd.at_int (Kd.R_reads' HO_10.out).2.2 (ji30) p530 q530; obtain rfl : (⟨go29, 0, none⟩ : Addr) = ad530 := (by injection e530); (first | simp only [add_plain] at hx530_0 | simp only [add_at] at hx530_0 | simp only [Addr.add, Nat.zero_add] at hx530_0 | skip); replace p530 := eq_true p530; replace q530 := eq_true q530; have p33 : 0 ≤ ((ji30) : Int) := of_decide_eq_true (by first | (with_reducible assumption) | assumption); have q33 : ((ji30) : Int) < ((x10_2.length : Int) : Int) := of_decide_eq_true (by first | (with_reducible assumption) | assumption); obtain ⟨hx33_0, hf33_0⟩ := Kd.R_celln 0 HO_10.out ((ji30) : Int) p33 q33; replace p33 := eq_true p33; replace q33 := eq_true q33; obtain ⟨hy37_, hz37_⟩ := Kd.R_celln 0 HO_10.out ((ji30) : Int) (of_decide_eq_true (by first | (with_reducible assumption) | assumption)) (of_decide_eq_true (by first | (with_reducible assumption) | assumption)); have HP37 := Kd.R_putg HO_10.out ((ji30) : Int) (wrap64 ((rd y529 (ji30)) - a3))) | ((with_reducible refine gate_store (t := 3) (p := 90) rfl ?_); refine store_event (t := 3) (p := 90) (v := ?vo_w38) (w1 := (w36.setCell ⟨go29, ((ji30) : Int).toNat, none⟩ (.int .i64 (wrap64 ((rd y529 (ji30)) - a3))))) ?hg ?ho ?hn ?hr ?_; (case ho => rfl); (case hg => rfl); (case hn => rfl); (case hr => first | (go_simp; done) | (go_simp; rfl)); intro w38 hw; have hg : w36.grownBy w38 (some go29) := (by rw [hw]; exact HP37.2); have hp_ : Kd.R (Kd.int .i64) 3 w38 w.heap.size (fun k_ => (w.heap.size ≤ k_)) (.slice (some ⟨go29, 0, none⟩) x10_2.length co34) y531 := (by rw [hw, Ny531.out]; exact HP37.1); clear HP37; have n_ := a_ (Aside0.mk hp_) (a_ (Aside0.mk (Kd.V_afterv (v := (.slice (some ⟨go29, 0, none⟩) x10_2.length co34)) (v1 := (.slice (some ⟨go29, 0, none⟩) x10_2.length co34)) (ok := (fun k_ => (P0_1_ k_ ∨ w.heap.size ≤ k_) ∧ k_ ≠ gb508 ∧ k_ ≠ gb509)) (by (with_reducible repeat (first | apply Kd.V_alloc | apply Kd.V_drewN | apply Kd.V_drew)); exact HO_509001.out) hg (.inl rfl))) (a_ (Aside0.mk (blk_grown (g := gb508) (o := .cells #[.int .i64 a0_0, .slice A0_1 l0_1.length c0_1] 24 (0, 0)) (bk_ BK508.out) hg (Kd.R_ne HO_10.out BK508.out (by decide)))) (a_ (Aside0.mk (blk_grown (g := gb509) (o := .cells #[.int .i64 0, .slice none 0 0] 24 (0, 0)) (bk_ BK509.out) hg (Kd.R_ne HO_10.out BK509.out (by decide)))) (Aside0.mk (by rw [hw]; exact below_set (HB.out) GB29.out : Below w.heap.size w w38))))); clear HO_10 HO_509001 BK508 BK509 HB; obtain ⟨HO_10, HO_509001, BK508, BK509, HB⟩ := n_; clear hg hw hp_))
          go_roundg k2
          case measure => have := HJ4.out; have := HK2.out; omega
          case rel => exact ⟨(y531), (wrap64 (x11_2 + 1)), (by first | rfl | (simp; done) | (simp [*]; done)), H', ⟨by have := HJ4.out; have := HK2.out; omega⟩, ⟨by (with_reducible repeat (first | apply Kd.R_alloc | apply Kd.R_drewN | apply Kd.R_drew)); exact HO_10.out⟩, ⟨by (with_reducible repeat (first | apply Kd.V_alloc | apply Kd.V_drewN | apply Kd.V_drew)); exact Kd.V_mono HO_509001.out (fun _ hk => ⟨hk.1.1, ⟨hk.2, ⟨hk.1.2.1, hk.1.2.2⟩⟩⟩)⟩, ⟨by (with_reducible repeat (first | refine blk_drewN ?_ _ | refine blk_drew ?_ | refine blk_alloc ?_ _)); exact BK508.out⟩, ⟨by (with_reducible repeat (first | refine blk_drewN ?_ _ | refine blk_drew ?_ | refine blk_alloc ?_ _)); exact BK509.out⟩, ⟨HB_⟩⟩
end Go.Proofs.Ytgeemdpflcefkaa.Y
