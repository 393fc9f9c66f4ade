-- WRITTEN BY this session's program wip/ext.py, in print.py's manner
import Derived.Test.YtgeemdpflcefkaaZx0
import Derived.Test.YtgeemdpflcefkaaZx8
import Derived.Test.YtgeemdpflcefkaaZx18
import Derived.Test.YtgeemdpflcefkaaZx34
namespace Go.Proofs.Ytgeemdpflcefkaa.Z
open Go.RowKit Go.Proofs.YtgeemdpflcefkaaW.PrintWords Go.Proofs.YtgeemdpflcefkaaW.PrintLast Go.Proofs.YtgeemdpflcefkaaW.PrintMore
attribute [local go_sem] max2_int min2_int max_two min_two max_three min_three max_four min_four   -- for this text's walks alone
set_option linter.unusedVariables false
set_option linter.unusedSimpArgs false

/-! ### itv_plain: function 89 -/
def itv_plain.f (a0_0 : Int) (a0_1 : Int) : Option (Int × Int) := (itv_Of.f a0_0 a0_1).bind fun bt576 => (some (bt576.1, bt576.2))
set_option maxHeartbeats 8000000 in
set_option maxRecDepth 100000 in
theorem itv_plain.calls (a0_0 : Int) (a0_1 : Int) (r1 : Int) (r2 : Int) (w : World) (h : itv_plain.f a0_0 a0_1 = some (r1, r2)) :
    Calls Try.prog 89 #[.agg #[.int .i64 a0_0, .int .i64 a0_1]] w fun e w' => e = .returned (.agg #[.int .i64 r1, .int .i64 r2]) ∧ Below w.heap.size w w' := by
  have hu39 := Try.underlying39
  have HB := Aside0.mk (Below.refl w.heap.size w)
  have H : ((itv_Of.f a0_0 a0_1).bind fun bt576 => (some (bt576.1, bt576.2))) = some (r1, r2) := h
  clear h
  replace H := Option.bind_eq_some_iff.mp H
  obtain ⟨⟨t576, t577⟩, A20, H⟩ := H
  replace H : (some (t576, t577)) = some (r1, r2) := H
  have A2 := Aside0.mk A20
  clear A20
  simp only [Option.some.injEq, Prod.mk.injEq] at H
  obtain ⟨rfl, rfl⟩ := H
  go_enter Try.func89, Try.ntmps89
  go_wp2_with (first | ((with_reducible refine gate_dst (N := 1) rfl ?_); refine bx_ (N := 1) (cs := #[.int .i64 a0_0, .int .i64 a0_1]) (t := 39) ?_; intro gb574 hg w3 hbox hb; have n_ := a_ (bs_ HB hb) (a_ (Aside0.mk hbox) (a_ (gs_ HB hg) (gs_ HB hg))); clear HB; obtain ⟨HB, BK574, GW574, GE574⟩ := n_; clear hb hbox hg) | ((with_reducible refine gate_dst (N := 2) rfl ?_); refine bx_ (N := 2) (cs := #[.int .i64 0, .int .i64 0]) (t := 39) ?_; intro gb575 hg w4 hbox hb; have n_ := a_ (bb_ BK574 hb) (a_ (bs_ HB hb) (a_ (Aside0.mk hbox) (a_ (gs_ HB hg) (a_ (gs_ HB hg) (a_ (nl_ BK574 hg) (ng_ BK574 hg)))))); clear BK574 HB; obtain ⟨BK574, HB, BK575, GW575, GE575, NB574_575, NB575_574⟩ := n_; clear hb hbox hg; have hnb5 := NB574_575.out; have hnc5 := NB575_574.out; obtain ⟨hcz6_0, hcz6_1, hfz6_0, hfz6_1⟩ := cz2_ BK574) | ((with_reducible refine gate_callee (f := 72) rfl ?_); refine goesL_ (some 7) rfl rfl Try.func72 (by kernel_rfl) rfl #[.int .i64 a0_0, .int .i64 a0_1] rfl MP_ ?_; (with_reducible refine (itv_Of.calls a0_0 a0_1 t576 t577 _ A2.out).mono ?_); rintro e w7 ⟨rfl, hb⟩; refine ⟨_, rfl, ?_⟩; have n_ := a_ (bb_ BK574 hb) (a_ (bb_ BK575 hb) (bs_ HB hb)); clear BK574 BK575 HB; obtain ⟨BK574, BK575, HB⟩ := n_; (try clear hb); (try clear hb2); (try clear hk); (try clear hi); obtain ⟨hcz8_0, hcz8_1, hfz8_0, hfz8_1⟩ := cz2_ BK575))
  refine bodyPost_ret (results_cell_row rfl _ _ gb575 39 #[.int .i64 t576, .int .i64 t577] (0, 0) _ rfl (bk2_ BK575.out) Try.underlying39 rfl (by kernel_rfl)) rfl ?_
  exact ⟨by first | rfl | (simp [errW_none, errW_some] <;> rfl) | (simp [*, errW_none, errW_some] <;> rfl), HB_⟩

/-! ### itv_Has: function 50 -/
def itv_Has.f (a0_0 : Int) (a0_1 : Int) (a1 : Int) : Option (Bool) := (itv_plain.f a0_0 a0_1).bind fun bt579 => (if a1 ≥ bt579.1 then (some (decide (a1 ≤ bt579.2))) else (some false))
set_option maxHeartbeats 8000000 in
set_option maxRecDepth 100000 in
theorem itv_Has.calls (a0_0 : Int) (a0_1 : Int) (a1 : Int) (r : Bool) (w : World) (h : itv_Has.f a0_0 a0_1 a1 = some r) :
    Calls Try.prog 50 #[.agg #[.int .i64 a0_0, .int .i64 a0_1], .int .i64 a1] w fun e w' => e = .returned (.bool r) ∧ Below w.heap.size w w' := by
  have hu39 := Try.underlying39
  have HB := Aside0.mk (Below.refl w.heap.size w)
  have H : ((itv_plain.f a0_0 a0_1).bind fun bt579 => (if a1 ≥ bt579.1 then (some (decide (a1 ≤ bt579.2))) else (some false))) = some r := h
  clear h
  replace H := bd_ H
  obtain ⟨⟨t579, t580⟩, A3, H⟩ := H
  (try dsimp only at H)
  by_cases c4 : a1 ≥ t579
  · rw [if_pos c4] at H
    have c4b0 : decide (t579 ≤ a1) = true := decide_eq_true c4
    clear c4
    obtain rfl := Option.some.inj H
    go_enter Try.func50, Try.ntmps50
    go_wp2_with (first | ((with_reducible refine gate_dst (N := 2) rfl ?_); refine bx_ (N := 2) (cs := #[.int .i64 a0_0, .int .i64 a0_1]) (t := 39) ?_; intro gb578 hg w5 hbox hb; have n_ := a_ (bs_ HB hb) (a_ (Aside0.mk hbox) (a_ (gs_ HB hg) (gs_ HB hg))); clear HB; obtain ⟨HB, BK578, GW578, GE578⟩ := n_; clear hb hbox hg; obtain ⟨hcz6_0, hcz6_1, hfz6_0, hfz6_1⟩ := cz2_ BK578) | ((with_reducible refine gate_callee (f := 89) rfl ?_); refine goesL_ (some 6) rfl rfl Try.func89 (by kernel_rfl) rfl #[.agg #[.int .i64 a0_0, .int .i64 a0_1]] rfl MP_ ?_; (with_reducible refine (itv_plain.calls a0_0 a0_1 t579 t580 _ A3.out).mono ?_); rintro e w7 ⟨rfl, hb⟩; refine ⟨_, rfl, ?_⟩; have n_ := a_ (bb_ BK578 hb) (bs_ HB hb); clear BK578 HB; obtain ⟨BK578, HB⟩ := n_; (try clear hb); (try clear hb2); (try clear hk); (try clear hi); obtain ⟨hcz8_0, hcz8_1, hfz8_0, hfz8_1⟩ := cz2_ BK578))
    go_ret
    exact ⟨by first | rfl | (simp [errW_none, errW_some] <;> rfl) | (simp [*, errW_none, errW_some] <;> rfl), HB_⟩
  rw [if_neg c4] at H
  have c4b0 : decide (t579 ≤ a1) = false := decide_eq_false c4
  clear c4
  obtain rfl := Option.some.inj H
  go_enter Try.func50, Try.ntmps50
  go_wp2_with (first | ((with_reducible refine gate_dst (N := 2) rfl ?_); refine bx_ (N := 2) (cs := #[.int .i64 a0_0, .int .i64 a0_1]) (t := 39) ?_; intro gb578 hg w9 hbox hb; have n_ := a_ (bs_ HB hb) (a_ (Aside0.mk hbox) (a_ (gs_ HB hg) (gs_ HB hg))); clear HB; obtain ⟨HB, BK578, GW578, GE578⟩ := n_; clear hb hbox hg; obtain ⟨hcz10_0, hcz10_1, hfz10_0, hfz10_1⟩ := cz2_ BK578) | ((with_reducible refine gate_callee (f := 89) rfl ?_); refine goesL_ (some 6) rfl rfl Try.func89 (by kernel_rfl) rfl #[.agg #[.int .i64 a0_0, .int .i64 a0_1]] rfl MP_ ?_; (with_reducible refine (itv_plain.calls a0_0 a0_1 t579 t580 _ A3.out).mono ?_); rintro e w11 ⟨rfl, hb⟩; refine ⟨_, rfl, ?_⟩; have n_ := a_ (bb_ BK578 hb) (bs_ HB hb); clear BK578 HB; obtain ⟨BK578, HB⟩ := n_; (try clear hb); (try clear hb2); (try clear hk); (try clear hi); obtain ⟨hcz12_0, hcz12_1, hfz12_0, hfz12_1⟩ := cz2_ BK578))
  go_ret
  exact ⟨by first | rfl | (simp [errW_none, errW_some] <;> rfl) | (simp [*, errW_none, errW_some] <;> rfl), HB_⟩

/-! ### warrantorref09_Limit: function 32 -/
def warrantorref09_Limit.f (k : Nat) (a0_0 : Int) (l0_1 : List Int) (a1 : Int) (a2 : Int) (a3 : Int) : Option (Int × List Int) := if (l0_1.length : Int) = 0 then (some (a0_0, l0_1)) else ((some (([] : List Int) : List Int)).bind fun y583 => (if y583.length + l0_1.length < 17592186044416 then ((some (y583 ++ l0_1 : List Int)).bind fun y586 => (if 0 ≤ (wrap64 ((wrap64 (a1 * (wrap64 (a0_0 + 1)))) + a2)) then (if (wrap64 ((wrap64 (a1 * (wrap64 (a0_0 + 1)))) + a2)) < (y586.length : Int) then (if a3 < (rd y586 (wrap64 ((wrap64 (a1 * (wrap64 (a0_0 + 1)))) + a2))) then ((warrantorref08_Close.f k a0_0 (y586.set ((wrap64 ((wrap64 (a1 * (wrap64 (a0_0 + 1)))) + a2)) : Int).toNat a3)).bind fun bt591 => (some (bt591.1, bt591.2))) else ((warrantorref08_Close.f k a0_0 y586).bind fun bt595 => (some (bt595.1, bt595.2)))) else (none)) else (none))) else (none)))
theorem warrantorref09_Limit.mono : ∀ a0 a1 a2 a3 a4 k, LeO (warrantorref09_Limit.f k a0 a1 a2 a3 a4) (warrantorref09_Limit.f (k + 1) a0 a1 a2 a3 a4) := by
  intro a0 a1 a2 a3 a4 k
  unfold warrantorref09_Limit.f
  repeat' first
      | (with_reducible exact warrantorref08_Close.mono _ _ _)
      | (with_reducible exact LeO.refl _)
      | (with_reducible exact LeO.none _)
      | (with_reducible refine LeO.ite ?_ ?_)
      | (with_reducible refine LeO.bind ?_ (fun _ => ?_))
      | exact warrantorref08_Close.mono _ _ _
      | exact LeO.none _
      | refine LeO.ite ?_ ?_
      | refine LeO.bind ?_ (fun _ => ?_)
set_option maxHeartbeats 8000000 in
set_option maxRecDepth 100000 in
theorem warrantorref09_Limit.calls (k : Nat) (a0_0 : Int) (P0_1_ : Nat → Prop) (A0_1 : Option Addr) (c0_1 : Nat) (l0_1 : List Int) (a1 : Int) (a2 : Int) (a3 : Int) (r1 : Int) (r2 : List Int) (w : World) (hs0_1 : Kd.V (Kd.int .i64) 3 w w.heap.size (fun k_ => P0_1_ k_) (.slice A0_1 l0_1.length c0_1) l0_1) (h : warrantorref09_Limit.f k a0_0 l0_1 a1 a2 a3 = some (r1, r2)) :
    Calls Try.prog 32 #[.agg #[.int .i64 a0_0, .slice A0_1 l0_1.length c0_1], .int .i64 a1, .int .i64 a2, .int .i64 a3] w fun e w' => ∃ v1_ : Value, e = .returned (.agg #[.int .i64 r1, v1_]) ∧ Kd.V (Kd.int .i64) 3 w' w.heap.size (fun k_ => (P0_1_ k_ ∨ w.heap.size ≤ k_)) v1_ r2 ∧ Below w.heap.size w w' := by
  have hu24 := Try.underlying24
  have HO0_1 := Aside0.mk (show Kd.V (Kd.int .i64) 3 w w.heap.size (fun k_ => (P0_1_ k_ ∨ w.heap.size ≤ k_)) (.slice A0_1 l0_1.length c0_1) l0_1 from Kd.V_mono hs0_1 (fun k_ hk => .inl hk))
  have HB := Aside0.mk (Below.refl w.heap.size w)
  have H : (if (l0_1.length : Int) = 0 then (some (a0_0, l0_1)) else ((some (([] : List Int) : List Int)).bind fun y583 => (if y583.length + l0_1.length < 17592186044416 then ((some (y583 ++ l0_1 : List Int)).bind fun y586 => (if 0 ≤ (wrap64 ((wrap64 (a1 * (wrap64 (a0_0 + 1)))) + a2)) then (if (wrap64 ((wrap64 (a1 * (wrap64 (a0_0 + 1)))) + a2)) < (y586.length : Int) then (if a3 < (rd y586 (wrap64 ((wrap64 (a1 * (wrap64 (a0_0 + 1)))) + a2))) then ((warrantorref08_Close.f k a0_0 (y586.set ((wrap64 ((wrap64 (a1 * (wrap64 (a0_0 + 1)))) + a2)) : Int).toNat a3)).bind fun bt591 => (some (bt591.1, bt591.2))) else ((warrantorref08_Close.f k a0_0 y586).bind fun bt595 => (some (bt595.1, bt595.2)))) else (none)) else (none))) else (none)))) = some (r1, r2) := h
  clear h
  by_cases c5 : (l0_1.length : Int) = 0
  · rw [if_pos c5] at H
    have c5b0 : ((l0_1.length : Int) == 0) = true := beq_iff_eq.mpr c5
    have c5b1 : ((l0_1.length : Int) != 0) = false := bne_eq_false_iff_eq.mpr c5
    clear c5
    simp only [Option.some.injEq, Prod.mk.injEq] at H
    obtain ⟨rfl, rfl⟩ := H
    go_enter Try.func32, Try.ntmps32
    go_wp2_with (first | ((with_reducible refine gate_dst (N := 4) rfl ?_); refine bx_ (N := 4) (cs := #[.int .i64 a0_0, .slice A0_1 l0_1.length c0_1]) (t := 24) ?_; intro gb581 hg w6 hbox hb; have n_ := a_ (Aside0.mk (Kd.V_below (Kd.V_elderB (by (with_reducible repeat (first | apply Kd.V_alloc | apply Kd.V_drewN | apply Kd.V_drew)); exact HO0_1.out) gb581 (Nat.le_of_eq hg.symm)) hb)) (a_ (bs_ HB hb) (a_ (Aside0.mk hbox) (a_ (gs_ HB hg) (gs_ HB hg)))); clear HO0_1 HB; obtain ⟨HO0_1, HB, BK581, GW581, GE581⟩ := n_; clear hb hbox hg) | ((with_reducible refine gate_dst (N := 8) rfl ?_); refine bx_ (N := 8) (cs := #[.int .i64 0, .slice none 0 0]) (t := 24) ?_; intro gb582 hg w7 hbox hb; have n_ := a_ (Aside0.mk (Kd.V_below (Kd.V_elderB (by (with_reducible repeat (first | apply Kd.V_alloc | apply Kd.V_drewN | apply Kd.V_drew)); exact HO0_1.out) gb582 (Nat.le_of_eq hg.symm)) hb)) (a_ (bb_ BK581 hb) (a_ (bs_ HB hb) (a_ (Aside0.mk hbox) (a_ (gs_ HB hg) (a_ (gs_ HB hg) (a_ (nl_ BK581 hg) (ng_ BK581 hg))))))); clear HO0_1 BK581 HB; obtain ⟨HO0_1, BK581, HB, BK582, GW582, GE582, NB581_582, NB582_581⟩ := n_; clear hb hbox hg; have hnb8 := NB581_582.out; have hnc8 := NB582_581.out; obtain ⟨hcz9_0, hcz9_1, hfz9_0, hfz9_1⟩ := cz2_ BK581; obtain ⟨hcz10_0, hcz10_1, hfz10_0, hfz10_1⟩ := cz2_ BK582))
    refine bodyPost_ret (results_cell_row rfl _ _ gb582 24 #[.int .i64 a0_0, .slice A0_1 l0_1.length c0_1] (0, 0) _ rfl (bk2_ BK582.out) Try.underlying24 rfl (by kernel_rfl)) rfl ?_
    exact ⟨_, by first | rfl | (simp [errW_none, errW_some] <;> rfl) | (simp [*, errW_none, errW_some] <;> rfl), by (with_reducible repeat (first | apply Kd.V_alloc | apply Kd.V_drewN | apply Kd.V_drew)); exact Kd.V_mono (Kd.V_far (p := ⟨gb582, 1, none⟩) (Kd.V_far (p := ⟨gb582, 0, none⟩) (Kd.V_mono HO0_1.out (fun k_ hk => (⟨hk, hk.2⟩ : _ ∧ k_ ≠ gb582))) (fun _ hk => hk.2) (.int .i64 a0_0)) (fun _ hk => hk.2) (.slice A0_1 l0_1.length c0_1)) (fun _ hk => hk.1.1.1), HB_⟩
  rw [if_neg c5] at H
  have c5b0 : ((l0_1.length : Int) == 0) = false := beq_eq_false_iff_ne.mpr c5
  have c5b1 : ((l0_1.length : Int) != 0) = true := bne_iff_ne.mpr c5
  have c5b2 : ¬ (l0_1 = []) := fun h_ => c5 (by rw [h_]; rfl)
  obtain ⟨y583, hy583⟩ : ∃ y_ : List Int, y_ = (([] : List Int)) := ⟨_, rfl⟩
  replace H : (if y583.length + l0_1.length < 17592186044416 then ((some (y583 ++ l0_1 : List Int)).bind fun y586 => (if 0 ≤ (wrap64 ((wrap64 (a1 * (wrap64 (a0_0 + 1)))) + a2)) then (if (wrap64 ((wrap64 (a1 * (wrap64 (a0_0 + 1)))) + a2)) < (y586.length : Int) then (if a3 < (rd y586 (wrap64 ((wrap64 (a1 * (wrap64 (a0_0 + 1)))) + a2))) then ((warrantorref08_Close.f k a0_0 (y586.set ((wrap64 ((wrap64 (a1 * (wrap64 (a0_0 + 1)))) + a2)) : Int).toNat a3)).bind fun bt591 => (some (bt591.1, bt591.2))) else ((warrantorref08_Close.f k a0_0 y586).bind fun bt595 => (some (bt595.1, bt595.2)))) else (none)) else (none))) else (none)) = some (r1, r2) := by first | (rw [hy583]; with_reducible exact H) | (have H2_ := (Option.bind_some _ _).symm.trans H; rw [hy583]; with_reducible exact H2_) | (have H2_ := (Option.bind_some _ _).symm.trans H; with_reducible exact H2_) | with_reducible exact H | (rw [hy583]; exact H) | exact H
  have Ny583 := Aside0.mk hy583
  clear hy583
  replace H := yes_ H
  obtain ⟨c11, H⟩ := H
  have LMc11 := Aside0.mk c11
  clear c11
  obtain ⟨y586, hy586⟩ : ∃ y_ : List Int, y_ = (y583 ++ l0_1) := ⟨_, rfl⟩
  replace H : (if 0 ≤ (wrap64 ((wrap64 (a1 * (wrap64 (a0_0 + 1)))) + a2)) then (if (wrap64 ((wrap64 (a1 * (wrap64 (a0_0 + 1)))) + a2)) < (y586.length : Int) then (if a3 < (rd y586 (wrap64 ((wrap64 (a1 * (wrap64 (a0_0 + 1)))) + a2))) then ((warrantorref08_Close.f k a0_0 (y586.set ((wrap64 ((wrap64 (a1 * (wrap64 (a0_0 + 1)))) + a2)) : Int).toNat a3)).bind fun bt591 => (some (bt591.1, bt591.2))) else ((warrantorref08_Close.f k a0_0 y586).bind fun bt595 => (some (bt595.1, bt595.2)))) else (none)) else (none)) = some (r1, r2) := by first | (rw [hy586]; with_reducible exact H) | (have H2_ := (Option.bind_some _ _).symm.trans H; rw [hy586]; with_reducible exact H2_) | (have H2_ := (Option.bind_some _ _).symm.trans H; with_reducible exact H2_) | with_reducible exact H | (rw [hy586]; exact H) | exact H
  have Ny586 := Aside0.mk hy586
  clear hy586
  obtain ⟨ji12, hji12⟩ : ∃ j_ : Int, (wrap64 ((wrap64 (a1 * (wrap64 (a0_0 + 1)))) + a2)) = j_ := ⟨_, rfl⟩
  replace H : (if 0 ≤ (ji12) then (if (ji12) < (y586.length : Int) then (if a3 < (rd y586 (ji12)) then ((warrantorref08_Close.f k a0_0 (y586.set ((ji12) : Int).toNat a3)).bind fun bt591 => (some (bt591.1, bt591.2))) else ((warrantorref08_Close.f k a0_0 y586).bind fun bt595 => (some (bt595.1, bt595.2)))) else (none)) else (none)) = some (r1, r2) := by first | (rw [hji12] at H; exact H) | (simp only [hji12] at H ⊢; exact H)
  have hji12w : (IntKind.i64.wrap ((wrap64 (a1 * (wrap64 (a0_0 + 1)))) + a2)) = ji12 := (i64_w _).trans hji12
  have hji12v : (IntKind.i64.wrap ((IntKind.i64.wrap (a1 * (IntKind.i64.wrap (a0_0 + 1)))) + a2)) = ji12 := by (try simp only [i64_w]); first | exact hji12 | exact hji12w
  replace H := yes_ H
  obtain ⟨c13, H⟩ := H
  have c13b0 : decide (0 ≤ (ji12)) = true := decide_eq_true c13
  clear c13
  replace H := yes_ H
  obtain ⟨c14, H⟩ := H
  have c14b0 : decide ((ji12) < (y586.length : Int)) = true := decide_eq_true c14
  clear c14
  by_cases c15 : a3 < (rd y586 (ji12))
  rotate_left
  · rw [if_neg c15] at H
    have c15b0 : decide (a3 < (rd y586 (ji12))) = false := decide_eq_false c15
    clear c15
    replace H := Option.bind_eq_some_iff.mp H
    obtain ⟨⟨t595, t596⟩, A340, H⟩ := H
    replace H : (some (t595, t596)) = some (r1, r2) := H
    have A34 := Aside0.mk A340
    clear A340
    simp only [Option.some.injEq, Prod.mk.injEq] at H
    obtain ⟨rfl, rfl⟩ := H
    go_enter Try.func32, Try.ntmps32
    go_wp2_with (first | ((with_reducible refine gate_dst (N := 4) rfl ?_); refine bx_ (N := 4) (cs := #[.int .i64 a0_0, .slice A0_1 l0_1.length c0_1]) (t := 24) ?_; intro gb581 hg w35 hbox hb; have n_ := a_ (Aside0.mk (Kd.V_below (Kd.V_elderB (by (with_reducible repeat (first | apply Kd.V_alloc | apply Kd.V_drewN | apply Kd.V_drew)); exact HO0_1.out) gb581 (Nat.le_of_eq hg.symm)) hb)) (a_ (bs_ HB hb) (a_ (Aside0.mk hbox) (a_ (gs_ HB hg) (gs_ HB hg)))); clear HO0_1 HB; obtain ⟨HO0_1, HB, BK581, GW581, GE581⟩ := n_; clear hb hbox hg) | ((with_reducible refine gate_dst (N := 8) rfl ?_); refine bx_ (N := 8) (cs := #[.int .i64 0, .slice none 0 0]) (t := 24) ?_; intro gb582 hg w36 hbox hb; have n_ := a_ (Aside0.mk (Kd.V_below (Kd.V_elderB (by (with_reducible repeat (first | apply Kd.V_alloc | apply Kd.V_drewN | apply Kd.V_drew)); exact HO0_1.out) gb582 (Nat.le_of_eq hg.symm)) hb)) (a_ (bb_ BK581 hb) (a_ (bs_ HB hb) (a_ (Aside0.mk hbox) (a_ (gs_ HB hg) (a_ (gs_ HB hg) (a_ (nl_ BK581 hg) (ng_ BK581 hg))))))); clear HO0_1 BK581 HB; obtain ⟨HO0_1, BK581, HB, BK582, GW582, GE582, NB581_582, NB582_581⟩ := n_; clear hb hbox hg; have hnb37 := NB581_582.out; have hnc37 := NB582_581.out; obtain ⟨hcz38_0, hcz38_1, hfz38_0, hfz38_1⟩ := cz2_ BK581) | ((with_reducible refine gate_dst (N := 16) rfl ?_); refine Kd.R_lit (Kd.int .i64) _ 3 ?hg (N := 16) ?hd (xs := ([] : List Int)) (inner := []) (ok := fun _ => True) (okp := fun _ => True) ?hr ?hp (fun _ hk => hk) trivial (Below.refl _ _) (Nat.le_refl _) (by simp) ?_; (case hd => rfl); (case hg => rfl); (case hr => first | (go_simp; done) | (go_simp; rfl)); (case hp => exact (Reps.none _ _)); intro v584 w39 ho40 hb hg_ hnew_; clear hg_ hnew_; (first | rw [← Ny583.out] at ho40 | (simp only [Int.reduceToNat] at ho40; rw [← Ny583.out] at ho40)); have n_ := a_ (Aside0.mk (Kd.V_elder' (by (with_reducible repeat (first | apply Kd.V_alloc | apply Kd.V_drewN | apply Kd.V_drew)); exact HO0_1.out) (Kd.R_base ho40) hb)) (a_ (Aside0.mk (Kd.R_lower (Kd.R_newM (M := fun k_ => (w.heap.size ≤ k_)) ho40 (below_size HB_) (fun k_ h_ => h_)) (below_size HB_))) (a_ (bb_ BK581 hb) (a_ (bb_ BK582 hb) (bs_ HB hb)))); clear HO0_1 BK581 BK582 HB; obtain ⟨HO0_1, HO585, BK581, BK582, HB⟩ := n_; clear hb ho40; obtain ⟨hcz41_0, hcz41_1, hfz41_0, hfz41_1⟩ := cz2_ BK581) | ((with_reducible refine gate_builtin (b := .append) (xs := #[.tmp 16, .tmp 18]) rfl ?_); at_builtin; refine Kd.R_append_rows (Kd.int .i64) (w0 := w) w.heap.size rfl (.tmp 16) (.tmp 18) 22 3 (.int .i64 0) 8 rfl Try.underlying22 info3 rfl (by decide) (by omega) v584 y583 l0_1 _ _ _ (fun k_ => (w.heap.size ≤ k_)) (fun _ => False) rfl rfl ?aO ?aR (fun _ _ h => h) (fun _ h => h.elim) ?aF ?aB ?aS ?aL ?_; (case aR => repeat (first | exact (Kd.V_reads' HO0_1.out).2.2 | (with_reducible refine Kd.C_alloc ?_ _) | (with_reducible refine Kd.C_drewN ?_ _) | (with_reducible refine Kd.C_drew ?_))); (case aB => exact HB_); (case aF => exact (fun k_ hk => (Nat.le_trans (below_size HB_) hk))); (case aO => exact (rd_ (Kd.R_mono HO585.out (fun _ hk => hk.1)))); (case aS => exact (below_size HB_)); (case aL => have := LMc11.out; omega); intro v587 w42 ho hb hg hat; rw [← Ny586.out] at ho; have n_ := a_ (Aside0.mk (Kd.V_afterv (ok := (fun k_ => (P0_1_ k_ ∨ w.heap.size ≤ k_) ∧ k_ ≠ gb581 ∧ k_ ≠ gb582)) (by (with_reducible repeat (first | apply Kd.V_alloc | apply Kd.V_drewN | apply Kd.V_drew)); exact Kd.V_mono HO0_1.out (fun _ hk => ⟨⟨hk.1.1.1, ⟨hk.1.1.2, hk.1.2⟩⟩, hk.2⟩)) hg hat)) (a_ (Aside0.mk (blk_grown (g := gb581) (o := .cells #[.int .i64 a0_0, .slice A0_1 l0_1.length c0_1] 24 (0, 0)) (bk_ BK581.out) hg (Kd.R_ne HO585.out BK581.out (by decide)))) (a_ (Aside0.mk (blk_grown (g := gb582) (o := .cells #[.int .i64 0, .slice none 0 0] 24 (0, 0)) (bk_ BK582.out) hg (Kd.R_ne HO585.out BK582.out (by decide)))) (a_ (Aside0.mk hb) (Aside0.mk ho)))); clear HO0_1 BK581 BK582 HB HO585; obtain ⟨HO0_1, BK581, BK582, HB, HO588⟩ := n_; clear ho hb hg hat; obtain ⟨hcz43_0, hcz43_1, hfz43_0, hfz43_1⟩ := cz2_ BK581; obtain ⟨Ao44, co44, eo44⟩ := Kd.R_slice HO588.out; subst eo44; have p589 : 0 ≤ ((ji12) : Int) := of_decide_eq_true (by first | (with_reducible assumption) | assumption); have q589 : (ji12) < (y586.length : Int) := of_decide_eq_true (by first | (with_reducible assumption) | assumption); obtain ⟨ad589, e589, hx589_0⟩ := Kd.at_int (Kd.R_reads' HO588.out).2.2 (ji12) p589 q589; cases e589; replace p589 := eq_true p589; replace q589 := eq_true q589) | ((with_reducible refine gate_callee (f := 76) rfl ?_); refine goesL_ (some 40) rfl rfl Try.func76 (by kernel_rfl) rfl #[.int .i64 a0_0, .slice (some ad589) y586.length co44] rfl MP_ ?_; (with_reducible refine (warrantorref08_Close.calls k a0_0 _ _ y586 t595 t596 _ ?side1 ?side2 A34.out).mono ?_); (case side1 => repeat (first | exact (Kd.R_reads' HO588.out).2.2 | (with_reducible refine Kd.C_alloc ?_ _) | (with_reducible refine Kd.C_drewN ?_ _) | (with_reducible refine Kd.C_drew ?_))); (case side2 => exact (Kd.R_reads' HO588.out).2.1); rintro e w45 ⟨v597, rfl, ho0, hb⟩; refine ⟨_, rfl, ?_⟩; have n_ := a_ (Aside0.mk (Kd.V_elder' (by (with_reducible repeat (first | apply Kd.V_alloc | apply Kd.V_drewN | apply Kd.V_drew)); exact HO0_1.out) (Kd.R_base ho0) hb)) (a_ (Aside0.mk (Kd.R_elder' (rd_ HO588.out) (Kd.R_base ho0) hb)) (a_ (Aside0.mk (Kd.R_lower (Kd.R_new' (Kd.R_newM (M := fun k_ => (w.heap.size ≤ k_)) ho0 (below_size HB_) (fun k_ h_ => h_)) (Kd.R_lt (rd_ HO588.out))) (below_size HB_))) (a_ (bb_ BK581 hb) (a_ (bb_ BK582 hb) (bs_ HB hb))))); clear HO0_1 HO588 BK581 BK582 HB; obtain ⟨HO0_1, HO588, HO598, BK581, BK582, HB⟩ := n_; (try clear hb); (try clear hb2); (try clear hk); (try clear hi); (try clear ho0); obtain ⟨hcz46_0, hcz46_1, hfz46_0, hfz46_1⟩ := cz2_ BK582; obtain ⟨Ao47, co47, eo47⟩ := Kd.R_slice HO598.out; subst eo47))
    refine bodyPost_ret (results_cell_row rfl _ _ gb582 24 #[.int .i64 t595, .slice Ao47 t596.length co47] (0, 0) _ rfl (bk2_ BK582.out) Try.underlying24 rfl (by kernel_rfl)) rfl ?_
    exact ⟨_, by first | rfl | (simp [errW_none, errW_some] <;> rfl) | (simp only [← hji12]; first | rfl | (simp [errW_none, errW_some] <;> rfl)) | (simp [*, errW_none, errW_some] <;> rfl), Kd.V_mono (Kd.R_V (rd_ (Kd.R_mono (Kd.R_far (p := ⟨gb582, 1, none⟩) (Kd.R_far (p := ⟨gb582, 0, none⟩) (Kd.R_types HO598.out BK582.out (by decide)) (fun _ hk => hk.2) (.int .i64 t595)) (fun _ hk => hk.2) (.slice Ao47 t596.length co47)) (fun _ hk => hk.1.1.1)))) (fun k_ hk => by first | exact ⟨(.inr (hk.1)), hk.2⟩ | exact (.inr (hk))), HB_⟩
  rw [if_pos c15] at H
  have c15b0 : decide (a3 < (rd y586 (ji12))) = true := decide_eq_true c15
  clear c15
  obtain ⟨y590, hy590⟩ : ∃ y_ : List Int, y_ = (y586.set ((ji12) : Int).toNat a3) := ⟨_, rfl⟩
  replace H : ((warrantorref08_Close.f k a0_0 y590).bind fun bt591 => (some (bt591.1, bt591.2))) = some (r1, r2) := by first | (rw [hy590]; with_reducible exact H) | (have H2_ := (Option.bind_some _ _).symm.trans H; rw [hy590]; with_reducible exact H2_) | (have H2_ := (Option.bind_some _ _).symm.trans H; with_reducible exact H2_) | with_reducible exact H | (rw [hy590]; exact H) | exact H
  have Ny590 := Aside0.mk hy590
  clear hy590
  replace H := Option.bind_eq_some_iff.mp H
  obtain ⟨⟨t591, t592⟩, A170, H⟩ := H
  replace H : (some (t591, t592)) = some (r1, r2) := H
  have A17 := Aside0.mk A170
  clear A170
  simp only [Option.some.injEq, Prod.mk.injEq] at H
  obtain ⟨rfl, rfl⟩ := H
  go_enter Try.func32, Try.ntmps32
  go_wp2_with (first | ((with_reducible refine gate_dst (N := 4) rfl ?_); refine bx_ (N := 4) (cs := #[.int .i64 a0_0, .slice A0_1 l0_1.length c0_1]) (t := 24) ?_; intro gb581 hg w18 hbox hb; have n_ := a_ (Aside0.mk (Kd.V_below (Kd.V_elderB (by (with_reducible repeat (first | apply Kd.V_alloc | apply Kd.V_drewN | apply Kd.V_drew)); exact HO0_1.out) gb581 (Nat.le_of_eq hg.symm)) hb)) (a_ (bs_ HB hb) (a_ (Aside0.mk hbox) (a_ (gs_ HB hg) (gs_ HB hg)))); clear HO0_1 HB; obtain ⟨HO0_1, HB, BK581, GW581, GE581⟩ := n_; clear hb hbox hg) | ((with_reducible refine gate_dst (N := 8) rfl ?_); refine bx_ (N := 8) (cs := #[.int .i64 0, .slice none 0 0]) (t := 24) ?_; intro gb582 hg w19 hbox hb; have n_ := a_ (Aside0.mk (Kd.V_below (Kd.V_elderB (by (with_reducible repeat (first | apply Kd.V_alloc | apply Kd.V_drewN | apply Kd.V_drew)); exact HO0_1.out) gb582 (Nat.le_of_eq hg.symm)) hb)) (a_ (bb_ BK581 hb) (a_ (bs_ HB hb) (a_ (Aside0.mk hbox) (a_ (gs_ HB hg) (a_ (gs_ HB hg) (a_ (nl_ BK581 hg) (ng_ BK581 hg))))))); clear HO0_1 BK581 HB; obtain ⟨HO0_1, BK581, HB, BK582, GW582, GE582, NB581_582, NB582_581⟩ := n_; clear hb hbox hg; have hnb20 := NB581_582.out; have hnc20 := NB582_581.out; obtain ⟨hcz21_0, hcz21_1, hfz21_0, hfz21_1⟩ := cz2_ BK581) | ((with_reducible refine gate_dst (N := 16) rfl ?_); refine Kd.R_lit (Kd.int .i64) _ 3 ?hg (N := 16) ?hd (xs := ([] : List Int)) (inner := []) (ok := fun _ => True) (okp := fun _ => True) ?hr ?hp (fun _ hk => hk) trivial (Below.refl _ _) (Nat.le_refl _) (by simp) ?_; (case hd => rfl); (case hg => rfl); (case hr => first | (go_simp; done) | (go_simp; rfl)); (case hp => exact (Reps.none _ _)); intro v584 w22 ho23 hb hg_ hnew_; clear hg_ hnew_; (first | rw [← Ny583.out] at ho23 | (simp only [Int.reduceToNat] at ho23; rw [← Ny583.out] at ho23)); have n_ := a_ (Aside0.mk (Kd.V_elder' (by (with_reducible repeat (first | apply Kd.V_alloc | apply Kd.V_drewN | apply Kd.V_drew)); exact HO0_1.out) (Kd.R_base ho23) hb)) (a_ (Aside0.mk (Kd.R_lower (Kd.R_newM (M := fun k_ => (w.heap.size ≤ k_)) ho23 (below_size HB_) (fun k_ h_ => h_)) (below_size HB_))) (a_ (bb_ BK581 hb) (a_ (bb_ BK582 hb) (bs_ HB hb)))); clear HO0_1 BK581 BK582 HB; obtain ⟨HO0_1, HO585, BK581, BK582, HB⟩ := n_; clear hb ho23; obtain ⟨hcz24_0, hcz24_1, hfz24_0, hfz24_1⟩ := cz2_ BK581) | ((with_reducible refine gate_builtin (b := .append) (xs := #[.tmp 16, .tmp 18]) rfl ?_); at_builtin; refine Kd.R_append_rows (Kd.int .i64) (w0 := w) w.heap.size rfl (.tmp 16) (.tmp 18) 22 3 (.int .i64 0) 8 rfl Try.underlying22 info3 rfl (by decide) (by omega) v584 y583 l0_1 _ _ _ (fun k_ => (w.heap.size ≤ k_)) (fun _ => False) rfl rfl ?aO ?aR (fun _ _ h => h) (fun _ h => h.elim) ?aF ?aB ?aS ?aL ?_; (case aR => repeat (first | exact (Kd.V_reads' HO0_1.out).2.2 | (with_reducible refine Kd.C_alloc ?_ _) | (with_reducible refine Kd.C_drewN ?_ _) | (with_reducible refine Kd.C_drew ?_))); (case aB => exact HB_); (case aF => exact (fun k_ hk => (Nat.le_trans (below_size HB_) hk))); (case aO => exact (rd_ (Kd.R_mono HO585.out (fun _ hk => hk.1)))); (case aS => exact (below_size HB_)); (case aL => have := LMc11.out; omega); intro v587 w25 ho hb hg hat; rw [← Ny586.out] at ho; have n_ := a_ (Aside0.mk (Kd.V_afterv (ok := (fun k_ => (P0_1_ k_ ∨ w.heap.size ≤ k_) ∧ k_ ≠ gb581 ∧ k_ ≠ gb582)) (by (with_reducible repeat (first | apply Kd.V_alloc | apply Kd.V_drewN | apply Kd.V_drew)); exact Kd.V_mono HO0_1.out (fun _ hk => ⟨⟨hk.1.1.1, ⟨hk.1.1.2, hk.1.2⟩⟩, hk.2⟩)) hg hat)) (a_ (Aside0.mk (blk_grown (g := gb581) (o := .cells #[.int .i64 a0_0, .slice A0_1 l0_1.length c0_1] 24 (0, 0)) (bk_ BK581.out) hg (Kd.R_ne HO585.out BK581.out (by decide)))) (a_ (Aside0.mk (blk_grown (g := gb582) (o := .cells #[.int .i64 0, .slice none 0 0] 24 (0, 0)) (bk_ BK582.out) hg (Kd.R_ne HO585.out BK582.out (by decide)))) (a_ (Aside0.mk hb) (Aside0.mk ho)))); clear HO0_1 BK581 BK582 HB HO585; obtain ⟨HO0_1, BK581, BK582, HB, HO588⟩ := n_; clear ho hb hg hat; obtain ⟨hcz26_0, hcz26_1, hfz26_0, hfz26_1⟩ := cz2_ BK581; obtain ⟨Ao27, co27, eo27⟩ := Kd.R_slice HO588.out; subst eo27; have p589 : 0 ≤ ((ji12) : Int) := of_decide_eq_true (by first | (with_reducible assumption) | assumption); have q589 : (ji12) < (y586.length : Int) := of_decide_eq_true (by first | (with_reducible assumption) | assumption); obtain ⟨ad589, e589, hx589_0⟩ := Kd.at_int (Kd.R_reads' HO588.out).2.2 (ji12) p589 q589; cases e589; replace p589 := eq_true p589; replace q589 := eq_true q589; have p16 : 0 ≤ ((ji12) : Int) := of_decide_eq_true (by first | (with_reducible assumption) | assumption); have q16 : ((ji12) : Int) < ((y586.length : Int) : Int) := of_decide_eq_true (by first | (with_reducible assumption) | assumption); obtain ⟨go16, co16, eo16, gb16, gl16, cl16, HG16⟩ := Kd.R_form HO588.out (by omega); (first | cases eo16 | (injection eo16 with ea_ en_ ec_; (first | subst ea_ | (injection ea_ with ea_; subst ea_)); subst ec_; clear en_)); have GB16 := Aside0.mk gb16; have GG16 := Aside0.mk HG16; clear gb16 gl16 HG16; (first | simp only [add_plain] at hx589_0 | skip); obtain ⟨hx16_0, hf16_0⟩ := Kd.R_celln 0 HO588.out ((ji12) : Int) p16 q16; replace p16 := eq_true p16; replace q16 := eq_true q16; obtain ⟨hy28_, hz28_⟩ := Kd.R_celln 0 HO588.out ((ji12) : Int) (of_decide_eq_true (by first | (with_reducible assumption) | assumption)) (of_decide_eq_true (by first | (with_reducible assumption) | assumption)); have HP28 := Kd.R_putg HO588.out ((ji12) : Int) a3) | ((with_reducible refine gate_store (t := 3) (p := 36) rfl ?_); refine store_event (t := 3) (p := 36) (v := ?vo_w29) (w1 := (w25.setCell ⟨go16, ((ji12) : Int).toNat, none⟩ (.int .i64 a3))) ?hg ?ho ?hn ?hr ?_; (case ho => rfl); (case hg => rfl); (case hn => rfl); (case hr => first | (go_simp; done) | (go_simp; rfl)); intro w29 hw; have hg : w25.grownBy w29 (some go16) := (by rw [hw]; exact HP28.2); have hp_ : Kd.R (Kd.int .i64) 3 w29 w.heap.size (fun k_ => (w.heap.size ≤ k_)) (.slice (some ⟨go16, 0, none⟩) y586.length co27) y590 := (by rw [hw, Ny590.out]; exact HP28.1); clear HP28; have n_ := a_ (Aside0.mk (Kd.V_afterv (v := (.slice (some ⟨go16, 0, none⟩) y586.length co27)) (v1 := (.slice (some ⟨go16, 0, none⟩) y586.length co27)) (ok := (fun k_ => (P0_1_ k_ ∨ w.heap.size ≤ k_) ∧ k_ ≠ gb581 ∧ k_ ≠ gb582)) (by (with_reducible repeat (first | apply Kd.V_alloc | apply Kd.V_drewN | apply Kd.V_drew)); exact HO0_1.out) hg (.inl rfl))) (a_ (Aside0.mk (blk_grown (g := gb581) (o := .cells #[.int .i64 a0_0, .slice A0_1 l0_1.length c0_1] 24 (0, 0)) (bk_ BK581.out) hg (Kd.R_ne HO588.out BK581.out (by decide)))) (a_ (Aside0.mk (blk_grown (g := gb582) (o := .cells #[.int .i64 0, .slice none 0 0] 24 (0, 0)) (bk_ BK582.out) hg (Kd.R_ne HO588.out BK582.out (by decide)))) (a_ (Aside0.mk hp_) (Aside0.mk (by rw [hw]; exact below_set (HB.out) GB16.out : Below w.heap.size w w29))))); clear HO0_1 BK581 BK582 HO588 HB; obtain ⟨HO0_1, BK581, BK582, HO588, HB⟩ := n_; clear hg hw hp_; obtain ⟨hcz30_0, hcz30_1, hfz30_0, hfz30_1⟩ := cz2_ BK581) | ((with_reducible refine gate_callee (f := 76) rfl ?_); refine goesL_ (some 40) rfl rfl Try.func76 (by kernel_rfl) rfl #[.int .i64 a0_0, .slice (some ⟨go16, 0, none⟩) y590.length co27] rfl (by (try simp only [List.map_toArray, List.map_cons, List.map_nil]); first | done | (rw [show y590.length = y586.length from (Kd.R_reads' HO588.out).1.symm] <;> rfl) | rfl | (simp only [List.length_drop, List.length_take]; rfl)) ?_; (with_reducible refine (warrantorref08_Close.calls k a0_0 _ _ y590 t591 t592 _ ?side1 ?side2 A17.out).mono ?_); (case side1 => repeat (first | exact (Kd.R_reads' HO588.out).2.2 | (with_reducible refine Kd.C_alloc ?_ _) | (with_reducible refine Kd.C_drewN ?_ _) | (with_reducible refine Kd.C_drew ?_))); (case side2 => rw [show y590.length = y586.length from (Kd.R_reads' HO588.out).1.symm]; exact (Kd.R_reads' HO588.out).2.1); rintro e w31 ⟨v593, rfl, ho0, hb⟩; refine ⟨_, rfl, ?_⟩; have n_ := a_ (Aside0.mk (Kd.V_elder' (by (with_reducible repeat (first | apply Kd.V_alloc | apply Kd.V_drewN | apply Kd.V_drew)); exact HO0_1.out) (Kd.R_base ho0) hb)) (a_ (Aside0.mk (Kd.R_elder' (rd_ HO588.out) (Kd.R_base ho0) hb)) (a_ (Aside0.mk (Kd.R_lower (Kd.R_new' (Kd.R_newM (M := fun k_ => (w.heap.size ≤ k_)) ho0 (below_size HB_) (fun k_ h_ => h_)) (Kd.R_lt (rd_ HO588.out))) (below_size HB_))) (a_ (bb_ BK581 hb) (a_ (bb_ BK582 hb) (bs_ HB hb))))); clear HO0_1 HO588 BK581 BK582 HB; obtain ⟨HO0_1, HO588, HO594, BK581, BK582, HB⟩ := n_; (try clear hb); (try clear hb2); (try clear hk); (try clear hi); (try clear ho0); obtain ⟨hcz32_0, hcz32_1, hfz32_0, hfz32_1⟩ := cz2_ BK582; obtain ⟨Ao33, co33, eo33⟩ := Kd.R_slice HO594.out; subst eo33))
  refine bodyPost_ret (results_cell_row rfl _ _ gb582 24 #[.int .i64 t591, .slice Ao33 t592.length co33] (0, 0) _ rfl (bk2_ BK582.out) Try.underlying24 rfl (by kernel_rfl)) rfl ?_
  exact ⟨_, by first | rfl | (simp [errW_none, errW_some] <;> rfl) | (simp only [← hji12]; first | rfl | (simp [errW_none, errW_some] <;> rfl)) | (simp [*, errW_none, errW_some] <;> rfl), Kd.V_mono (Kd.R_V (rd_ (Kd.R_mono (Kd.R_far (p := ⟨gb582, 1, none⟩) (Kd.R_far (p := ⟨gb582, 0, none⟩) (Kd.R_types HO594.out BK582.out (by decide)) (fun _ hk => hk.2) (.int .i64 t591)) (fun _ hk => hk.2) (.slice Ao33 t592.length co33)) (fun _ hk => hk.1.1.1)))) (fun k_ hk => by first | exact ⟨(.inr (hk.1)), hk.2⟩ | exact (.inr (hk))), HB_⟩
/-! ### warrantorref07_None: function 54 -/
def warrantorref07_None.f  : Option (Int × Int) := some (1, 0)
set_option maxHeartbeats 8000000 in
set_option maxRecDepth 100000 in
theorem warrantorref07_None.calls  (r1 : Int) (r2 : Int) (w : World) (h : warrantorref07_None.f  = some (r1, r2)) :
    Calls Try.prog 54 #[] w fun e w' => e = .returned (.agg #[.int .i64 r1, .int .i64 r2]) ∧ Below w.heap.size w w' := by
  have hu39 := Try.underlying39
  have HB := Aside0.mk (Below.refl w.heap.size w)
  have H : (some (1, 0)) = some (r1, r2) := h
  clear h
  simp only [Option.some.injEq, Prod.mk.injEq] at H
  obtain ⟨rfl, rfl⟩ := H
  go_enter Try.func54, Try.ntmps54
  go_wp2_with (first | ((with_reducible refine gate_dst (N := 0) rfl ?_); refine bx_ (N := 0) (cs := #[.int .i64 0, .int .i64 0]) (t := 39) ?_; intro gb599 hg w1 hbox hb; have n_ := a_ (bs_ HB hb) (a_ (Aside0.mk hbox) (a_ (gs_ HB hg) (gs_ HB hg))); clear HB; obtain ⟨HB, BK599, GW599, GE599⟩ := n_; clear hb hbox hg; obtain ⟨hcz2_0, hcz2_1, hfz2_0, hfz2_1⟩ := cz2_ BK599))
  refine bodyPost_ret (results_cell_row rfl _ _ gb599 39 #[.int .i64 1, .int .i64 0] (0, 0) _ rfl (bk2_ BK599.out) Try.underlying39 rfl (by kernel_rfl)) rfl ?_
  exact ⟨by first | rfl | (simp [errW_none, errW_some] <;> rfl) | (simp [*, errW_none, errW_some] <;> rfl), HB_⟩

/-! ### warrantorref06_Clip: function 58 -/
def warrantorref06_Clip.f (a0 : Int) : Option (Int) := if a0 > 1099511627776 then (some 1099511627776) else (if a0 < (-1099511627776) then (some (-1099511627776)) else (some a0))
set_option maxHeartbeats 8000000 in
set_option maxRecDepth 100000 in
theorem warrantorref06_Clip.calls (a0 : Int) (r : Int) (w : World) (h : warrantorref06_Clip.f a0 = some r) :
    Calls Try.prog 58 #[.int .i64 a0] w fun e w' => e = .returned (.int .i64 r) ∧ Drawn0 w w' := by
  have H : (if a0 > 1099511627776 then (some 1099511627776) else (if a0 < (-1099511627776) then (some (-1099511627776)) else (some a0))) = some r := h
  clear h
  by_cases c2 : a0 > 1099511627776
  · rw [if_pos c2] at H
    have c2b0 : decide (1099511627776 < a0) = true := decide_eq_true c2
    clear c2
    obtain rfl := Option.some.inj H
    go_enter Try.func58, Try.ntmps58
    go_wp2
    go_ret
    exact ⟨by first | rfl | (simp; done) | (simp [*]; done), by repeat (first | exact Drawn0.refl _ | apply Drawn0.step)⟩
  rw [if_neg c2] at H
  have c2b0 : decide (1099511627776 < a0) = false := decide_eq_false c2
  clear c2
  by_cases c3 : a0 < (-1099511627776)
  · rw [if_pos c3] at H
    have c3b0 : decide (a0 < (-1099511627776)) = true := decide_eq_true c3
    clear c3
    obtain rfl := Option.some.inj H
    go_enter Try.func58, Try.ntmps58
    go_wp2
    go_ret
    exact ⟨by first | rfl | (simp; done) | (simp [*]; done), by repeat (first | exact Drawn0.refl _ | apply Drawn0.step)⟩
  rw [if_neg c3] at H
  have c3b0 : decide (a0 < (-1099511627776)) = false := decide_eq_false c3
  clear c3
  obtain rfl := Option.some.inj H
  go_enter Try.func58, Try.ntmps58
  go_wp2
  go_ret
  exact ⟨by first | rfl | (simp; done) | (simp [*]; done), by repeat (first | exact Drawn0.refl _ | apply Drawn0.step)⟩

/-! ### warrantorref07_Of: function 92 -/
def warrantorref07_Of.j0 : Nat → Int → Int → Bool → Option (Int × Int)
  | 0, _, _, _ => none
  | k + 1, x0, x1, x15 => if x15 = true then ((warrantorref07_None.f).bind fun bt601 => (some (bt601.1, bt601.2))) else ((warrantorref06_Clip.f x0).bind fun t603 => ((warrantorref06_Clip.f x1).bind fun t604 => (some (t603, t604))))
def warrantorref07_Of.f (k : Nat) (a0 : Int) (a1 : Int) : Option (Int × Int) := if a0 > a1 then (warrantorref07_Of.j0 k a0 a1 true) else (if a0 > 1099511627776 then (warrantorref07_Of.j0 k a0 a1 true) else (warrantorref07_Of.j0 k a0 a1 (decide (a1 < (-1099511627776)))))
theorem warrantorref07_Of.mono_l : ∀ k, (∀ y0 y1 y2, LeO (warrantorref07_Of.j0 k y0 y1 y2) (warrantorref07_Of.j0 (k + 1) y0 y1 y2))
  | 0 => fun _ _ _ r h => by simp [warrantorref07_Of.j0] at h
  | k + 1 => by
    have ih0 := warrantorref07_Of.mono_l k
    · intro y0 y1 y2
      unfold warrantorref07_Of.j0
      repeat' first
      | (with_reducible exact ih0 _ _ _)
      | (with_reducible exact LeO.refl _)
      | (with_reducible exact LeO.none _)
      | (with_reducible refine LeO.ite ?_ ?_)
      | (with_reducible refine LeO.bind ?_ (fun _ => ?_))
      | exact ih0 _ _ _
      | exact LeO.none _
      | refine LeO.ite ?_ ?_
      | refine LeO.bind ?_ (fun _ => ?_)
theorem warrantorref07_Of.mono : ∀ a0 a1 k, LeO (warrantorref07_Of.f k a0 a1) (warrantorref07_Of.f (k + 1) a0 a1) := by
  intro a0 a1 k
  have ih0 := warrantorref07_Of.mono_l k
  unfold warrantorref07_Of.f
  repeat' first
      | (with_reducible exact ih0 _ _ _)
      | (with_reducible exact LeO.refl _)
      | (with_reducible exact LeO.none _)
      | (with_reducible refine LeO.ite ?_ ?_)
      | (with_reducible refine LeO.bind ?_ (fun _ => ?_))
      | exact ih0 _ _ _
      | exact LeO.none _
      | refine LeO.ite ?_ ?_
      | refine LeO.bind ?_ (fun _ => ?_)
set_option maxHeartbeats 8000000 in
set_option maxRecDepth 100000 in
theorem warrantorref07_Of.calls (k : Nat) (a0 : Int) (a1 : Int) (r1 : Int) (r2 : Int) (w : World) (h : warrantorref07_Of.f k a0 a1 = some (r1, r2)) :
    Calls Try.prog 92 #[.int .i64 a0, .int .i64 a1] w fun e w' => e = .returned (.agg #[.int .i64 r1, .int .i64 r2]) ∧ Below w.heap.size w w' := by
  have hu39 := Try.underlying39
  have HB := Aside0.mk (Below.refl w.heap.size w)
  have H : (if a0 > a1 then (warrantorref07_Of.j0 k a0 a1 true) else (if a0 > 1099511627776 then (warrantorref07_Of.j0 k a0 a1 true) else (warrantorref07_Of.j0 k a0 a1 (decide (a1 < (-1099511627776)))))) = some (r1, r2) := h
  clear h
  have HC3 := Aside0.mk H
  clear H
  go_enter Try.func92, Try.ntmps92
  go_upto_region 1 with (first | ((with_reducible refine gate_dst (N := 4) rfl ?_); refine bx_ (N := 4) (cs := #[.int .i64 0, .int .i64 0]) (t := 39) ?_; intro gb600 hg w4 hbox hb; have n_ := a_ (bs_ HB hb) (a_ (Aside0.mk hbox) (a_ (gs_ HB hg) (gs_ HB hg))); clear HB; obtain ⟨HB, BK600, GW600, GE600⟩ := n_; clear hb hbox hg))
  (try simp only [Act.put, List.setIfInBounds_toArray, List.set_cons_zero, List.set_cons_succ])
  go_cut [15] (fun v15 wc => ∃ (kq : Nat) (x15_2 : Bool), v15 = .bool x15_2 ∧ Aside0 (warrantorref07_Of.j0 kq a0 a1 x15_2 = some (r1, r2)) ∧ Aside0 (kq ≤ k) ∧ Aside0 (wc.heap[gb600]? = some (.cells #[.int .i64 0, .int .i64 0] 39 (0, 0))) ∧ Aside0 (Below w.heap.size w wc))
  case first =>
    have H := HC3.out
    clear HC3
    by_cases c5 : a0 > a1
    · rw [if_pos c5] at H
      have c5b0 : decide (a1 < a0) = true := decide_eq_true c5
      clear c5
      (first | rw [c5b0] | (simp only [i64_w, i32_w]; rw [c5b0]) | skip)
      have H' := Aside0.mk H
      clear H
      go_wp2
      go_meet
      case rel => exact ⟨_, (true), (by first | rfl | (simp; done) | (simp [*]; done)), H', ⟨by first | omega | exact Nat.le_refl _⟩, ⟨by (with_reducible repeat (first | refine blk_drewN ?_ _ | refine blk_drew ?_ | refine blk_alloc ?_ _)); exact BK600.out⟩, ⟨HB_⟩⟩
    rw [if_neg c5] at H
    have c5b0 : decide (a1 < a0) = false := decide_eq_false c5
    clear c5
    (first | rw [c5b0] | (simp only [i64_w, i32_w]; rw [c5b0]) | skip)
    by_cases c6 : a0 > 1099511627776
    rotate_left
    · rw [if_neg c6] at H
      have c6b0 : decide (1099511627776 < a0) = false := decide_eq_false c6
      clear c6
      have H' := Aside0.mk H
      clear H
      go_wp2
      go_meet
      case rel => exact ⟨_, (decide (a1 < (-1099511627776))), (by first | rfl | (simp; done) | (simp [*]; done)), H', ⟨by first | omega | exact Nat.le_refl _⟩, ⟨by (with_reducible repeat (first | refine blk_drewN ?_ _ | refine blk_drew ?_ | refine blk_alloc ?_ _)); exact BK600.out⟩, ⟨HB_⟩⟩
    rw [if_pos c6] at H
    have c6b0 : decide (1099511627776 < a0) = true := decide_eq_true c6
    clear c6
    have H' := Aside0.mk H
    clear H
    go_wp2
    go_meet
    case rel => exact ⟨_, (true), (by first | rfl | (simp; done) | (simp [*]; done)), H', ⟨by first | omega | exact Nat.le_refl _⟩, ⟨by (with_reducible repeat (first | refine blk_drewN ?_ _ | refine blk_drew ?_ | refine blk_alloc ?_ _)); exact BK600.out⟩, ⟨HB_⟩⟩
  case rest =>
    clear HC3
    try clear p2
    try clear c5
    try clear c5b0
    try clear c6
    try clear c6b0
    obtain ⟨kq, x15_2, rfl, HA, HJ2, BK600, HB⟩ := hcut
    cases kq with
    | zero => exact absurd HA.out (by simp [warrantorref07_Of.j0])
    | succ kj2 =>
      have H := HA.out
      clear HA
      simp only [warrantorref07_Of.j0] at H
      by_cases c7 : x15_2 = true
      · subst c7
        have H1 : ((warrantorref07_None.f).bind fun bt601 => (some (bt601.1, bt601.2))) = some (r1, r2) := by rw [if_pos rfl] at H; exact H
        clear H
        have H := H1
        clear H1
        replace H := Option.bind_eq_some_iff.mp H
        obtain ⟨⟨t601, t602⟩, A80, H⟩ := H
        replace H : (some (t601, t602)) = some (r1, r2) := H
        have A8 := Aside0.mk A80
        clear A80
        simp only [Option.some.injEq, Prod.mk.injEq] at H
        obtain ⟨rfl, rfl⟩ := H
        go_wp2_with (first | ((with_reducible refine gate_callee (f := 54) rfl ?_); refine goesL_ (some 16) rfl rfl Try.func54 (by kernel_rfl) rfl #[] rfl MP_ ?_; (with_reducible refine (warrantorref07_None.calls  t601 t602 _ A8.out).mono ?_); rintro e w9 ⟨rfl, hb⟩; refine ⟨_, rfl, ?_⟩; have n_ := a_ (bb_ BK600 hb) (bs_ HB hb); clear BK600 HB; obtain ⟨BK600, HB⟩ := n_; (try clear hb); (try clear hb2); (try clear hk); (try clear hi); obtain ⟨hcz10_0, hcz10_1, hfz10_0, hfz10_1⟩ := cz2_ BK600))
        refine bodyPost_ret (results_cell_row rfl _ _ gb600 39 #[.int .i64 t601, .int .i64 t602] (0, 0) _ rfl (bk2_ BK600.out) Try.underlying39 rfl (by kernel_rfl)) rfl ?_
        exact ⟨by first | rfl | (simp [errW_none, errW_some] <;> rfl) | (simp [*, errW_none, errW_some] <;> rfl), HB_⟩
      replace c7 := Bool.eq_false_iff.mpr c7
      subst c7
      have H1 : ((warrantorref06_Clip.f a0).bind fun t603 => ((warrantorref06_Clip.f a1).bind fun t604 => (some (t603, t604)))) = some (r1, r2) := by rw [if_neg (show ¬ (false = true) by decide)] at H; exact H
      clear H
      have H := H1
      clear H1
      replace H := Option.bind_eq_some_iff.mp H
      obtain ⟨t603, A110, H⟩ := H
      replace H : ((warrantorref06_Clip.f a1).bind fun t604 => (some (t603, t604))) = some (r1, r2) := H
      have A11 := Aside0.mk A110
      clear A110
      replace H := Option.bind_eq_some_iff.mp H
      obtain ⟨t604, A120, H⟩ := H
      replace H : (some (t603, t604)) = some (r1, r2) := H
      have A12 := Aside0.mk A120
      clear A120
      simp only [Option.some.injEq, Prod.mk.injEq] at H
      obtain ⟨rfl, rfl⟩ := H
      go_wp2_with (first | ((with_reducible refine gate_callee (f := 58) rfl ?_); refine goesL_ (some 18) rfl rfl Try.func58 (by kernel_rfl) rfl #[.int .i64 a0] rfl MP_ ?_; (with_reducible refine (warrantorref06_Clip.calls a0 t603 _ A11.out).mono ?_); rintro e w' ⟨rfl, ⟨nd, rfl⟩⟩; refine ⟨_, rfl, ?_⟩; (try (rw [drewN_self wc]; generalize hq_ : World.drewN wc _ = wc; have n0_ : Aside0 (wc.heap[gb600]? = some (.cells #[.int .i64 0, .int .i64 0] 39 (0, 0))) := ⟨by rw [← hq_]; exact (bk_ BK600.out)⟩; have n1_ : Aside0 (Below w.heap.size w wc) := ⟨by rw [← hq_]; exact HB_⟩; clear BK600 HB hq_; have BK600 := n0_; have HB := n1_; clear n0_ n1_)); (try clear A11)) | ((with_reducible refine gate_callee (f := 58) rfl ?_); refine goesL_ (some 20) rfl rfl Try.func58 (by kernel_rfl) rfl #[.int .i64 a1] rfl MP_ ?_; (with_reducible refine (warrantorref06_Clip.calls a1 t604 _ A12.out).mono ?_); rintro e w' ⟨rfl, ⟨nd, rfl⟩⟩; refine ⟨_, rfl, ?_⟩; (try (rw [drewN_self wc]; generalize hq_ : World.drewN wc _ = wc; have n0_ : Aside0 (wc.heap[gb600]? = some (.cells #[.int .i64 0, .int .i64 0] 39 (0, 0))) := ⟨by rw [← hq_]; exact (bk_ BK600.out)⟩; have n1_ : Aside0 (Below w.heap.size w wc) := ⟨by rw [← hq_]; exact HB_⟩; clear BK600 HB hq_; have BK600 := n0_; have HB := n1_; clear n0_ n1_)); obtain ⟨hcz13_0, hcz13_1, hfz13_0, hfz13_1⟩ := cz2_ BK600))
      refine bodyPost_ret (results_cell_row rfl _ _ gb600 39 #[.int .i64 t603, .int .i64 t604] (0, 0) _ rfl (bk2_ BK600.out) Try.underlying39 rfl (by kernel_rfl)) rfl ?_
      exact ⟨by first | rfl | (simp [errW_none, errW_some] <;> rfl) | (simp [*, errW_none, errW_some] <;> rfl), HB_⟩

/-! ### warrantorref07_Plain: function 53 -/
def warrantorref07_Plain.f (k : Nat) (a0_0 : Int) (a0_1 : Int) : Option (Int × Int) := (warrantorref07_Of.f k a0_0 a0_1).bind fun bt607 => (some (bt607.1, bt607.2))
theorem warrantorref07_Plain.mono : ∀ a0 a1 k, LeO (warrantorref07_Plain.f k a0 a1) (warrantorref07_Plain.f (k + 1) a0 a1) := by
  intro a0 a1 k
  unfold warrantorref07_Plain.f
  repeat' first
      | (with_reducible exact warrantorref07_Of.mono _ _ _)
      | (with_reducible exact LeO.refl _)
      | (with_reducible exact LeO.none _)
      | (with_reducible refine LeO.ite ?_ ?_)
      | (with_reducible refine LeO.bind ?_ (fun _ => ?_))
      | exact warrantorref07_Of.mono _ _ _
      | exact LeO.none _
      | refine LeO.ite ?_ ?_
      | refine LeO.bind ?_ (fun _ => ?_)
set_option maxHeartbeats 8000000 in
set_option maxRecDepth 100000 in
theorem warrantorref07_Plain.calls (k : Nat) (a0_0 : Int) (a0_1 : Int) (r1 : Int) (r2 : Int) (w : World) (h : warrantorref07_Plain.f k a0_0 a0_1 = some (r1, r2)) :
    Calls Try.prog 53 #[.agg #[.int .i64 a0_0, .int .i64 a0_1]] w fun e w' => e = .returned (.agg #[.int .i64 r1, .int .i64 r2]) ∧ Below w.heap.size w w' := by
  have hu39 := Try.underlying39
  have HB := Aside0.mk (Below.refl w.heap.size w)
  have H : ((warrantorref07_Of.f k a0_0 a0_1).bind fun bt607 => (some (bt607.1, bt607.2))) = some (r1, r2) := h
  clear h
  replace H := Option.bind_eq_some_iff.mp H
  obtain ⟨⟨t607, t608⟩, A20, H⟩ := H
  replace H : (some (t607, t608)) = some (r1, r2) := H
  have A2 := Aside0.mk A20
  clear A20
  simp only [Option.some.injEq, Prod.mk.injEq] at H
  obtain ⟨rfl, rfl⟩ := H
  go_enter Try.func53, Try.ntmps53
  go_wp2_with (first | ((with_reducible refine gate_dst (N := 1) rfl ?_); refine bx_ (N := 1) (cs := #[.int .i64 a0_0, .int .i64 a0_1]) (t := 39) ?_; intro gb605 hg w3 hbox hb; have n_ := a_ (bs_ HB hb) (a_ (Aside0.mk hbox) (a_ (gs_ HB hg) (gs_ HB hg))); clear HB; obtain ⟨HB, BK605, GW605, GE605⟩ := n_; clear hb hbox hg) | ((with_reducible refine gate_dst (N := 2) rfl ?_); refine bx_ (N := 2) (cs := #[.int .i64 0, .int .i64 0]) (t := 39) ?_; intro gb606 hg w4 hbox hb; have n_ := a_ (bb_ BK605 hb) (a_ (bs_ HB hb) (a_ (Aside0.mk hbox) (a_ (gs_ HB hg) (a_ (gs_ HB hg) (a_ (nl_ BK605 hg) (ng_ BK605 hg)))))); clear BK605 HB; obtain ⟨BK605, HB, BK606, GW606, GE606, NB605_606, NB606_605⟩ := n_; clear hb hbox hg; have hnb5 := NB605_606.out; have hnc5 := NB606_605.out; obtain ⟨hcz6_0, hcz6_1, hfz6_0, hfz6_1⟩ := cz2_ BK605) | ((with_reducible refine gate_callee (f := 92) rfl ?_); refine goesL_ (some 7) rfl rfl Try.func92 (by kernel_rfl) rfl #[.int .i64 a0_0, .int .i64 a0_1] rfl MP_ ?_; (with_reducible refine (warrantorref07_Of.calls k a0_0 a0_1 t607 t608 _ A2.out).mono ?_); rintro e w7 ⟨rfl, hb⟩; refine ⟨_, rfl, ?_⟩; have n_ := a_ (bb_ BK605 hb) (a_ (bb_ BK606 hb) (bs_ HB hb)); clear BK605 BK606 HB; obtain ⟨BK605, BK606, HB⟩ := n_; (try clear hb); (try clear hb2); (try clear hk); (try clear hi); obtain ⟨hcz8_0, hcz8_1, hfz8_0, hfz8_1⟩ := cz2_ BK606))
  refine bodyPost_ret (results_cell_row rfl _ _ gb606 39 #[.int .i64 t607, .int .i64 t608] (0, 0) _ rfl (bk2_ BK606.out) Try.underlying39 rfl (by kernel_rfl)) rfl ?_
  exact ⟨by first | rfl | (simp [errW_none, errW_some] <;> rfl) | (simp [*, errW_none, errW_some] <;> rfl), HB_⟩

/-! ### warrantorref08_All: function 90 -/
def warrantorref08_All.l0 : Nat → Int → List Int → Int → Option (Int × List Int)
  | 0, _, _, _ => none
  | k + 1, x0, x3, x4 => if x4 < (wrap64 ((wrap64 (x0 + 1)) * (wrap64 (x0 + 1)))) then (if x3.length < 17592186044416 then (warrantorref08_All.l0 k x0 (x3 ++ [4398046511104]) (wrap64 (x4 + 1))) else (none)) else ((warrantorref08_Close.f k x0 x3).bind fun bt613 => (some (bt613.1, bt613.2)))
def warrantorref08_All.f (k : Nat) (a0 : Int) : Option (Int × List Int) := warrantorref08_All.l0 k a0 ([] : List Int) 0
theorem warrantorref08_All.mono_l : ∀ k, (∀ y0 y1 y2, LeO (warrantorref08_All.l0 k y0 y1 y2) (warrantorref08_All.l0 (k + 1) y0 y1 y2))
  | 0 => fun _ _ _ r h => by simp [warrantorref08_All.l0] at h
  | k + 1 => by
    have ih0 := warrantorref08_All.mono_l k
    · intro y0 y1 y2
      unfold warrantorref08_All.l0
      repeat' first
      | (with_reducible exact ih0 _ _ _)
      | (with_reducible exact warrantorref08_Close.mono _ _ _)
      | (with_reducible exact LeO.refl _)
      | (with_reducible exact LeO.none _)
      | (with_reducible refine LeO.ite ?_ ?_)
      | (with_reducible refine LeO.bind ?_ (fun _ => ?_))
      | exact ih0 _ _ _
      | exact warrantorref08_Close.mono _ _ _
      | exact LeO.none _
      | refine LeO.ite ?_ ?_
      | refine LeO.bind ?_ (fun _ => ?_)
theorem warrantorref08_All.mono : ∀ a0 k, LeO (warrantorref08_All.f k a0) (warrantorref08_All.f (k + 1) a0) := by
  intro a0 k
  have ih0 := warrantorref08_All.mono_l k
  unfold warrantorref08_All.f
  repeat' first
      | (with_reducible exact ih0 _ _ _)
      | (with_reducible exact warrantorref08_Close.mono _ _ _)
      | (with_reducible exact LeO.refl _)
      | (with_reducible exact LeO.none _)
      | (with_reducible refine LeO.ite ?_ ?_)
      | (with_reducible refine LeO.bind ?_ (fun _ => ?_))
      | exact ih0 _ _ _
      | exact warrantorref08_Close.mono _ _ _
      | exact LeO.none _
      | refine LeO.ite ?_ ?_
      | refine LeO.bind ?_ (fun _ => ?_)
set_option maxHeartbeats 8000000 in
set_option maxRecDepth 100000 in
theorem warrantorref08_All.calls (k : Nat) (a0 : Int) (r1 : Int) (r2 : List Int) (w : World) (h : warrantorref08_All.f k a0 = some (r1, r2)) :
    Calls Try.prog 90 #[.int .i64 a0] w fun e w' => ∃ v1_ : Value, e = .returned (.agg #[.int .i64 r1, v1_]) ∧ Kd.R (Kd.int .i64) 3 w' w.heap.size (fun _ => True) v1_ r2 ∧ Below w.heap.size w w' := by
  have hu24 := Try.underlying24
  have HB := Aside0.mk (Below.refl w.heap.size w)
  have H : (warrantorref08_All.l0 k a0 ([] : List Int) 0) = some (r1, r2) := h
  clear h
  have H' := Aside0.mk H
  clear H
  go_enter Try.func90, Try.ntmps90
  go_wp2_with (first | ((with_reducible refine gate_dst (N := 2) rfl ?_); refine bx_ (N := 2) (cs := #[.int .i64 0, .slice none 0 0]) (t := 24) ?_; intro gb609 hg w2 hbox hb; have n_ := a_ (bs_ HB hb) (a_ (Aside0.mk hbox) (a_ (gs_ HB hg) (gs_ HB hg))); clear HB; obtain ⟨HB, BK609, GW609, GE609⟩ := n_; clear hb hbox hg))
  go_loopg [3, 4] k (fun kq v3 v4 w' => ∃ (x3_1 : List Int) (x4_1 : Int), v4 = .int .i64 x4_1 ∧ Aside0 (warrantorref08_All.l0 kq a0 x3_1 x4_1 = some (r1, r2)) ∧ Aside0 (kq ≤ k) ∧ Aside0 (Kd.R (Kd.int .i64) 3 w' w.heap.size (fun _ => True) v3 x3_1) ∧ Aside0 (w'.heap[gb609]? = some (.cells #[.int .i64 0, (.slice none 0 0)] 24 (0, 0))) ∧ Aside0 (Below w.heap.size w w'))
  case atStart => exact ⟨(([] : List Int)), (0), (by first | rfl | (simp; done) | (simp [*]; done)), H', ⟨Nat.le_refl _⟩, ⟨by first | exact Kd.R_nil _ _ _ _ _ | exact Kd.N_nil _ _ _ _ _ | exact Kd.V_nil _ _ _ _ _ | exact Kd.Q_nil _ _ _ _ _ | exact Kd.S_nil _ _ _ _ _⟩, ⟨by (with_reducible repeat (first | refine blk_drewN ?_ _ | refine blk_drew ?_ | refine blk_alloc ?_ _)); exact BK609.out⟩, ⟨HB_⟩⟩
  case round =>
    clear H'
    try clear p2
    obtain ⟨x3_1, x4_1, rfl, HA, HK1, HO_3, BK609, HB⟩ := hrel
    cases gk with
    | zero => exact absurd HA.out (by simp [warrantorref08_All.l0])
    | succ k1 =>
      have H := HA.out
      clear HA
      simp only [warrantorref08_All.l0] at H
      by_cases c3 : x4_1 < (wrap64 ((wrap64 (a0 + 1)) * (wrap64 (a0 + 1))))
      rotate_left
      · rw [if_neg c3] at H
        have c3b0 : decide (x4_1 < (wrap64 ((wrap64 (a0 + 1)) * (wrap64 (a0 + 1))))) = false := decide_eq_false c3
        have c3b0v : decide (x4_1 < (IntKind.i64.wrap ((IntKind.i64.wrap (a0 + 1)) * (IntKind.i64.wrap (a0 + 1))))) = false := by (try simp only [i64_w]); exact c3b0
        clear c3
        replace H := Option.bind_eq_some_iff.mp H
        obtain ⟨⟨t613, t614⟩, A60, H⟩ := H
        replace H : (some (t613, t614)) = some (r1, r2) := H
        have A6 := Aside0.mk A60
        clear A60
        simp only [Option.some.injEq, Prod.mk.injEq] at H
        obtain ⟨rfl, rfl⟩ := H
        obtain ⟨Ao7, co7, eo7⟩ := Kd.R_slice HO_3.out
        subst eo7
        go_wp2_with (first | ((with_reducible refine gate_callee (f := 76) rfl ?_); refine goesL_ (some 19) rfl rfl Try.func76 (by kernel_rfl) rfl #[.int .i64 a0, .slice Ao7 x3_1.length co7] rfl MP_ ?_; (with_reducible refine (warrantorref08_Close.calls k1 a0 _ _ x3_1 t613 t614 _ ?side1 ?side2 A6.out).mono ?_); (case side1 => repeat (first | exact (Kd.R_reads' HO_3.out).2.2 | (with_reducible refine Kd.C_alloc ?_ _) | (with_reducible refine Kd.C_drewN ?_ _) | (with_reducible refine Kd.C_drew ?_))); (case side2 => exact (Kd.R_reads' HO_3.out).2.1); rintro e w8 ⟨v615, rfl, ho0, hb⟩; refine ⟨_, rfl, ?_⟩; have n_ := a_ (Aside0.mk (Kd.R_elder' (rd_ HO_3.out) (Kd.R_base ho0) hb)) (a_ (Aside0.mk (Kd.R_lower (Kd.R_new' ho0 (Kd.R_lt (rd_ HO_3.out))) (below_size HB_))) (a_ (bb_ BK609 hb) (bs_ HB hb))); clear HO_3 BK609 HB; obtain ⟨HO_3, HO616, BK609, HB⟩ := n_; (try clear hb); (try clear hb2); (try clear hk); (try clear hi); (try clear ho0); obtain ⟨hcz9_0, hcz9_1, hfz9_0, hfz9_1⟩ := cz2_ BK609; obtain ⟨Ao10, co10, eo10⟩ := Kd.R_slice HO616.out; subst eo10))
        refine bodyPost_ret (results_cell_row rfl _ _ gb609 24 #[.int .i64 t613, .slice Ao10 t614.length co10] (0, 0) _ rfl (bk2_ BK609.out) Try.underlying24 rfl (by kernel_rfl)) rfl ?_
        exact ⟨_, by first | rfl | (simp [errW_none, errW_some] <;> rfl) | (simp [*, errW_none, errW_some] <;> rfl), by (with_reducible repeat (first | apply Kd.R_alloc | apply Kd.R_drewN | apply Kd.R_drew)); exact Kd.R_mono (Kd.R_far (p := ⟨gb609, 1, none⟩) (Kd.R_far (p := ⟨gb609, 0, none⟩) (Kd.R_types HO616.out BK609.out (by decide)) (fun _ hk => hk.2) (.int .i64 t613)) (fun _ hk => hk.2) (.slice Ao10 t614.length co10)) (fun _ hk => trivial), HB_⟩

      rw [if_pos c3] at H
      have c3b0 : decide (x4_1 < (wrap64 ((wrap64 (a0 + 1)) * (wrap64 (a0 + 1))))) = true := decide_eq_true c3
      have c3b0v : decide (x4_1 < (IntKind.i64.wrap ((IntKind.i64.wrap (a0 + 1)) * (IntKind.i64.wrap (a0 + 1))))) = true := by (try simp only [i64_w]); exact c3b0
      clear c3
      replace H := yes_ H
      obtain ⟨c4, H⟩ := H
      have LMc4 := Aside0.mk c4
      clear c4
      obtain ⟨y610, hy610⟩ : ∃ y_ : List Int, y_ = (x3_1 ++ [4398046511104]) := ⟨_, rfl⟩
      replace H : (warrantorref08_All.l0 k1 a0 y610 (wrap64 (x4_1 + 1))) = some (r1, r2) := by first | (rw [hy610]; with_reducible exact H) | (have H2_ := (Option.bind_some _ _).symm.trans H; rw [hy610]; with_reducible exact H2_) | (have H2_ := (Option.bind_some _ _).symm.trans H; with_reducible exact H2_) | with_reducible exact H | (rw [hy610]; exact H) | exact H
      have Ny610 := Aside0.mk hy610
      clear hy610
      have H' := Aside0.mk H
      clear H
      go_wp2_with (first | ((with_reducible refine gate_builtin (b := .append) (xs := #[.tmp 14, .tmp 15]) rfl ?_); at_builtin; refine Kd.R_append (Kd.int .i64) (w0 := w) w.heap.size rfl (.tmp 14) (.tmp 15) 22 3 (.int .i64 0) 8 rfl Try.underlying22 info3 rfl (by decide) (by omega) u3 x3_1 4398046511104 [.int .i64 4398046511104] (fun _ => True) (fun _ => False) rfl rfl ?aP (fun _ hk => hk.elim) ?aF ?aO ?aB ?aS ?aL ?_; (case aP => exact rfl); (case aB => exact HB_); (case aF => exact (fun _ _ => trivial)); (case aO => exact (rd_ HO_3.out)); (case aS => exact (below_size HB_)); (case aL => have := LMc4.out; omega); intro v611 w5 ho hb hg hat; rw [← Ny610.out] at ho; have n_ := a_ (Aside0.mk (blk_grown (g := gb609) (o := .cells #[.int .i64 0, .slice none 0 0] 24 (0, 0)) (bk_ BK609.out) hg (Kd.R_ne HO_3.out BK609.out (by decide)))) (a_ (Aside0.mk hb) (Aside0.mk ho)); clear BK609 HB HO_3; obtain ⟨BK609, HB, HO612⟩ := n_; clear ho hb hg hat))
      go_roundg k1
      case measure => have := HK1.out; omega
      case rel => exact ⟨(y610), (wrap64 (x4_1 + 1)), (by first | rfl | (simp; done) | (simp [*]; done)), H', ⟨by have := HK1.out; omega⟩, ⟨by (with_reducible repeat (first | apply Kd.R_alloc | apply Kd.R_drewN | apply Kd.R_drew)); exact HO612.out⟩, ⟨by (with_reducible repeat (first | refine blk_drewN ?_ _ | refine blk_drew ?_ | refine blk_alloc ?_ _)); exact BK609.out⟩, ⟨HB_⟩⟩
/-! ### warrantorref09_Box: function 51 -/
def warrantorref09_Box.l0 : Nat → List (S39) → Int → Int → List Int → Option (Int × List Int)
  | 0, _, _, _, _ => none
  | k + 1, x0, x4, x623000, x623001 => if x4 < (x0.length : Int) then (if 0 ≤ x4 then ((warrantorref07_Plain.f k ((rd_T39 x0 x4).f0) ((rd_T39 x0 x4).f1)).bind fun bt624 => ((warrantorref09_Limit.f k x623000 x623001 (wrap64 (x4 + 1)) 0 bt624.2).bind fun bt627 => ((warrantorref09_Limit.f k bt627.1 bt627.2 0 (wrap64 (x4 + 1)) (wrap64 (-bt624.1))).bind fun bt631 => (warrantorref09_Box.l0 k x0 (wrap64 (x4 + 1)) bt631.1 bt631.2)))) else (none)) else (some (x623000, x623001))
def warrantorref09_Box.f (k : Nat) (l0 : List (S39)) : Option (Int × List Int) := (warrantorref08_All.f k (l0.length : Int)).bind fun bt618 => (warrantorref09_Box.l0 k l0 0 bt618.1 bt618.2)
theorem warrantorref09_Box.mono_l : ∀ k, (∀ y0 y1 y2 y3, LeO (warrantorref09_Box.l0 k y0 y1 y2 y3) (warrantorref09_Box.l0 (k + 1) y0 y1 y2 y3))
  | 0 => fun _ _ _ _ r h => by simp [warrantorref09_Box.l0] at h
  | k + 1 => by
    have ih0 := warrantorref09_Box.mono_l k
    · intro y0 y1 y2 y3
      unfold warrantorref09_Box.l0
      repeat' first
      | (with_reducible exact ih0 _ _ _ _)
      | (with_reducible exact warrantorref07_Plain.mono _ _ _)
      | (with_reducible exact warrantorref08_All.mono _ _)
      | (with_reducible exact warrantorref09_Limit.mono _ _ _ _ _ _)
      | (with_reducible exact LeO.refl _)
      | (with_reducible exact LeO.none _)
      | (with_reducible refine LeO.ite ?_ ?_)
      | (with_reducible refine LeO.bind ?_ (fun _ => ?_))
      | exact ih0 _ _ _ _
      | exact warrantorref07_Plain.mono _ _ _
      | exact warrantorref08_All.mono _ _
      | exact warrantorref09_Limit.mono _ _ _ _ _ _
      | exact LeO.none _
      | refine LeO.ite ?_ ?_
      | refine LeO.bind ?_ (fun _ => ?_)
theorem warrantorref09_Box.mono : ∀ a0 k, LeO (warrantorref09_Box.f k a0) (warrantorref09_Box.f (k + 1) a0) := by
  intro a0 k
  have ih0 := warrantorref09_Box.mono_l k
  unfold warrantorref09_Box.f
  repeat' first
      | (with_reducible exact ih0 _ _ _ _)
      | (with_reducible exact warrantorref07_Plain.mono _ _ _)
      | (with_reducible exact warrantorref08_All.mono _ _)
      | (with_reducible exact warrantorref09_Limit.mono _ _ _ _ _ _)
      | (with_reducible exact LeO.refl _)
      | (with_reducible exact LeO.none _)
      | (with_reducible refine LeO.ite ?_ ?_)
      | (with_reducible refine LeO.bind ?_ (fun _ => ?_))
      | exact ih0 _ _ _ _
      | exact warrantorref07_Plain.mono _ _ _
      | exact warrantorref08_All.mono _ _
      | exact warrantorref09_Limit.mono _ _ _ _ _ _
      | exact LeO.none _
      | refine LeO.ite ?_ ?_
      | refine LeO.bind ?_ (fun _ => ?_)
def warrantorref09_Box.T6 : Bool × List (List Nat × List Nat) := (true, [([], []), ([], []), ([1], [1]), ([], []), ([3], [3]), ([0, 2, 4], [0, 2, 4]), ([], []), ([6], [6]), ([], []), ([8], [8]), ([9], [9]), ([5, 7, 10, 5], [5, 7, 10]), ([11, 11, 0, 1, 2, 3, 4, 5, 6, 7, 8, 9, 10, 11], [11])])
def warrantorref09_Box.B6 : List Nat := [0, 0, 2, 0, 8, 31, 0, 64, 0, 256, 768, 2047, 4095]
theorem warrantorref09_Box.tab6 : rtab .any (opsOf Try.f51 6) = warrantorref09_Box.T6 := by kernel_rfl
theorem warrantorref09_Box.bits6 : waitsOk warrantorref09_Box.T6.2 warrantorref09_Box.B6 = true := by kernel_rfl
set_option maxHeartbeats 8000000 in
set_option maxRecDepth 100000 in
theorem warrantorref09_Box.calls (k : Nat) (A0 : Option Addr) (c0 : Nat) (l0 : List (S39)) (r1 : Int) (r2 : List Int) (w : World) (hr0 : Kd.C k39 w A0 l0.length l0) (hc0 : l0.length ≤ c0) (h : warrantorref09_Box.f k l0 = some (r1, r2)) :
    Calls Try.prog 51 #[.slice A0 l0.length c0] w fun e w' => ∃ v1_ : Value, e = .returned (.agg #[.int .i64 r1, v1_]) ∧ Kd.V (Kd.int .i64) 3 w' w.heap.size (fun k_ => (w.heap.size ≤ k_)) v1_ r2 ∧ Below w.heap.size w w' := by
  have hu24 := Try.underlying24
  have hu39 := Try.underlying39
  have HR0 := Aside0.mk hr0
  have HC0 := Aside0.mk hc0
  clear hr0 hc0
  have HB := Aside0.mk (Below.refl w.heap.size w)
  have H : ((warrantorref08_All.f k (l0.length : Int)).bind fun bt618 => (warrantorref09_Box.l0 k l0 0 bt618.1 bt618.2)) = some (r1, r2) := h
  clear h
  replace H := Option.bind_eq_some_iff.mp H
  obtain ⟨⟨t618, t619⟩, A20, H⟩ := H
  replace H : (warrantorref09_Box.l0 k l0 0 t618 t619) = some (r1, r2) := H
  have A2 := Aside0.mk A20
  clear A20
  have H' := Aside0.mk H
  clear H
  go_enter Try.func51, Try.ntmps51
  go_wp2_with (first | ((with_reducible refine gate_dst (N := 2) rfl ?_); refine bx_ (N := 2) (cs := #[.int .i64 0, .slice none 0 0]) (t := 24) ?_; intro gb617 hg w3 hbox hb; have n_ := a_ (bs_ HB hb) (a_ (Aside0.mk hbox) (a_ (gs_ HB hg) (gs_ HB hg))); clear HB; obtain ⟨HB, BK617, GW617, GE617⟩ := n_; clear hb hbox hg) | ((with_reducible refine gate_callee (f := 90) rfl ?_); refine goesL_ (some 8) rfl rfl Try.func90 (by kernel_rfl) rfl #[.int .i64 (l0.length : Int)] rfl MP_ ?_; (with_reducible refine (warrantorref08_All.calls k (l0.length : Int) t618 t619 _ A2.out).mono ?_); rintro e w4 ⟨v620, rfl, ho0, hb⟩; refine ⟨_, rfl, ?_⟩; have n_ := a_ (Aside0.mk (Kd.R_lower (Kd.R_newM (M := fun k_ => (w.heap.size ≤ k_)) ho0 (below_size HB_) (fun k_ h_ => h_)) (below_size HB_))) (a_ (bb_ BK617 hb) (bs_ HB hb)); clear BK617 HB; obtain ⟨HO621, BK617, HB⟩ := n_; (try clear hb); (try clear hb2); (try clear hk); (try clear hi); (try clear ho0)) | ((with_reducible refine gate_dst (N := 3) rfl ?_); refine bx_ (N := 3) (cs := #[.int .i64 0, .slice none 0 0]) (t := 24) ?_; intro gb622 hg w5 hbox hb; have n_ := a_ (rb_ HO621 hb) (a_ (bb_ BK617 hb) (a_ (bs_ HB hb) (a_ (Aside0.mk hbox) (a_ (gs_ HB hg) (a_ (gs_ HB hg) (a_ (nl_ BK617 hg) (ng_ BK617 hg))))))); clear HO621 BK617 HB; obtain ⟨HO621, BK617, HB, BK622, GW622, GE622, NB617_622, NB622_617⟩ := n_; clear hb hbox hg; have hnb6 := NB622_617.out; have hnc6 := NB617_622.out; obtain ⟨hcz7_0, hcz7_1, hfz7_0, hfz7_1⟩ := cz2_ BK622; obtain ⟨Ao8, co8, eo8⟩ := Kd.R_slice HO621.out; subst eo8))
  go_loopg [4] k (fun kq v4 w' => ∃ (x4_1 : Int) (x623000_1 : Int) (x623001_1 : List Int) (u623001 : Value), v4 = .int .i64 x4_1 ∧ Aside0 (warrantorref09_Box.l0 kq l0 x4_1 x623000_1 x623001_1 = some (r1, r2)) ∧ Aside0 (kq ≤ k) ∧ Aside0 (Kd.V (Kd.int .i64) 3 w' w.heap.size (fun k_ => (w.heap.size ≤ k_) ∧ k_ ≠ gb617 ∧ k_ ≠ gb622) u623001 x623001_1) ∧ Aside0 (w'.heap[gb617]? = some (.cells #[.int .i64 0, (.slice none 0 0)] 24 (0, 0))) ∧ Aside0 (w'.heap[gb622]? = some (.cells #[.int .i64 x623000_1, u623001] 24 (0, 0))) ∧ Aside0 (Below w.heap.size w w'))
  case atStart => exact ⟨(0), (t618), (t619), (.slice Ao8 t619.length co8), (by first | rfl | (simp; done) | (simp [*]; done)), H', ⟨Nat.le_refl _⟩, ⟨Kd.R_V (by (with_reducible repeat (first | apply Kd.R_alloc | apply Kd.R_drewN | apply Kd.R_drew)); exact Kd.R_mono (Kd.R_far (p := ⟨gb622, 1, none⟩) (Kd.R_far (p := ⟨gb622, 0, none⟩) (Kd.R_types (Kd.R_types (Kd.R_types HO621.out BK617.out (by decide)) BK622.out (by decide)) BK622.out (by decide)) (fun _ hk => hk.2) (.int .i64 t618)) (fun _ hk => hk.2) (.slice Ao8 t619.length co8)) (fun _ hk => ⟨hk.1.1.1.1, ⟨hk.1.1.2, hk.1.2⟩⟩))⟩, ⟨by (with_reducible repeat (first | refine blk_drewN ?_ _ | refine blk_drew ?_ | refine blk_alloc ?_ _)); refine blk_far ?_ NB617_622.out _; (with_reducible repeat (first | refine blk_drewN ?_ _ | refine blk_drew ?_ | refine blk_alloc ?_ _)); refine blk_far ?_ NB617_622.out _; (with_reducible repeat (first | refine blk_drewN ?_ _ | refine blk_drew ?_ | refine blk_alloc ?_ _)); exact BK617.out⟩, ⟨by (with_reducible repeat (first | refine blk_drewN ?_ _ | refine blk_drew ?_ | refine blk_alloc ?_ _)); refine blk_put (cs := #[.int .i64 t618, .slice none 0 0]) ?_ 1 _ rfl; (with_reducible repeat (first | refine blk_drewN ?_ _ | refine blk_drew ?_ | refine blk_alloc ?_ _)); refine blk_put (cs := #[.int .i64 0, .slice none 0 0]) ?_ 0 _ rfl; (with_reducible repeat (first | refine blk_drewN ?_ _ | refine blk_drew ?_ | refine blk_alloc ?_ _)); exact BK622.out⟩, ⟨HB_⟩⟩
  case round =>
    clear H'
    try clear p2
    try clear c5
    try clear c6
    try clear hcz7_0
    try clear hcz7_1
    try clear hfz7_0
    try clear hfz7_1
    obtain ⟨x4_1, x623000_1, x623001_1, u623001, rfl, HA, HK1, HO_623001, BK617, BK622, HB⟩ := hrel
    cases gk with
    | zero => exact absurd HA.out (by simp [warrantorref09_Box.l0])
    | succ k1 =>
      have H := HA.out
      clear HA
      simp only [warrantorref09_Box.l0] at H
      by_cases c9 : x4_1 < (l0.length : Int)
      rotate_left
      · rw [if_neg c9] at H
        have c9b0 : decide (x4_1 < (l0.length : Int)) = false := decide_eq_false c9
        clear c9
        simp only [Option.some.injEq, Prod.mk.injEq] at H
        obtain ⟨rfl, rfl⟩ := H
        have hnb28 := NB622_617.out
        have hnc28 := NB617_622.out
        obtain ⟨hcz29_0, hcz29_1, hfz29_0, hfz29_1⟩ := cz2_ BK622
        obtain ⟨hcz30_0, hcz30_1, hfz30_0, hfz30_1⟩ := cz2_ BK617
        obtain ⟨Ao31, co31, eo31⟩ := Kd.V_slice HO_623001.out
        subst eo31
        go_wp2
        refine bodyPost_ret (results_cell_row rfl _ _ gb617 24 #[.int .i64 x623000_1, .slice Ao31 x623001_1.length co31] (0, 0) _ rfl (bk2_ BK617.out) Try.underlying24 rfl (by kernel_rfl)) rfl ?_
        exact ⟨_, by first | rfl | (simp [errW_none, errW_some] <;> rfl) | (simp [*, errW_none, errW_some] <;> rfl), by (with_reducible repeat (first | apply Kd.V_alloc | apply Kd.V_drewN | apply Kd.V_drew)); exact Kd.V_mono (Kd.V_far (p := ⟨gb617, 1, none⟩) (Kd.V_far (p := ⟨gb617, 0, none⟩) (Kd.V_mono HO_623001.out (fun k_ hk => (⟨hk, hk.2.1⟩ : _ ∧ k_ ≠ gb617))) (fun _ hk => hk.2) (.int .i64 x623000_1)) (fun _ hk => hk.2) (.slice Ao31 x623001_1.length co31)) (fun _ hk => hk.1.1), HB_⟩

      rw [if_pos c9] at H
      have c9b0 : decide (x4_1 < (l0.length : Int)) = true := decide_eq_true c9
      clear c9
      replace H := yes_ H
      obtain ⟨c10, H⟩ := H
      have c10b0 : decide (0 ≤ x4_1) = true := decide_eq_true c10
      clear c10
      replace H := Option.bind_eq_some_iff.mp H
      obtain ⟨⟨t624, t625⟩, A110, H⟩ := H
      replace H : ((warrantorref09_Limit.f k1 x623000_1 x623001_1 (wrap64 (x4_1 + 1)) 0 t625).bind fun bt627 => ((warrantorref09_Limit.f k1 bt627.1 bt627.2 0 (wrap64 (x4_1 + 1)) (wrap64 (-t624))).bind fun bt631 => (warrantorref09_Box.l0 k1 l0 (wrap64 (x4_1 + 1)) bt631.1 bt631.2))) = some (r1, r2) := H
      have A11 := Aside0.mk A110
      clear A110
      replace H := Option.bind_eq_some_iff.mp H
      obtain ⟨⟨t627, t628⟩, A120, H⟩ := H
      replace H : ((warrantorref09_Limit.f k1 t627 t628 0 (wrap64 (x4_1 + 1)) (wrap64 (-t624))).bind fun bt631 => (warrantorref09_Box.l0 k1 l0 (wrap64 (x4_1 + 1)) bt631.1 bt631.2)) = some (r1, r2) := H
      have A12 := Aside0.mk A120
      clear A120
      replace H := Option.bind_eq_some_iff.mp H
      obtain ⟨⟨t631, t632⟩, A130, H⟩ := H
      replace H : (warrantorref09_Box.l0 k1 l0 (wrap64 (x4_1 + 1)) t631 t632) = some (r1, r2) := H
      have A13 := Aside0.mk A130
      clear A130
      have H' := Aside0.mk H
      clear H
      have p623 : 0 ≤ (x4_1 : Int) := of_decide_eq_true (by first | (with_reducible assumption) | assumption)
      have q623 : x4_1 < (l0.length : Int) := of_decide_eq_true (by first | (with_reducible assumption) | assumption)
      obtain ⟨ad623, e623, hx623_0, hx623_1⟩ := at_T39 HR0.out x4_1 p623 q623
      cases e623
      first | (replace hx623_0 := (HB.out.cell (World.block_lt_of_cell? w _ hx623_0)).trans hx623_0) | skip
      first | (replace hx623_1 := (HB.out.cell (World.block_lt_of_cell? w _ hx623_1)).trans hx623_1) | skip
      replace p623 := eq_true p623
      replace q623 := eq_true q623
      try go_wp2_with (first | ((with_reducible refine gate_callee (f := 53) rfl ?_); refine goesL_ (some 19) rfl rfl Try.func53 (by kernel_rfl) rfl #[.agg #[.int .i64 ((rd_T39 l0 x4_1).f0), .int .i64 ((rd_T39 l0 x4_1).f1)]] rfl MP_ ?_; (with_reducible refine (warrantorref07_Plain.calls k1 ((rd_T39 l0 x4_1).f0) ((rd_T39 l0 x4_1).f1) t624 t625 _ A11.out).mono ?_); rintro e w14 ⟨rfl, hb⟩; refine ⟨_, rfl, ?_⟩; have n_ := a_ (Aside0.mk (Kd.V_below (by (with_reducible repeat (first | apply Kd.V_alloc | apply Kd.V_drewN | apply Kd.V_drew)); exact HO_623001.out) hb)) (a_ (bb_ BK617 hb) (a_ (bb_ BK622 hb) (bs_ HB hb))); clear HO_623001 BK617 BK622 HB; obtain ⟨HO_623001, BK617, BK622, HB⟩ := n_; (try clear hb); (try clear hb2); (try clear hk); (try clear hi)) | ((with_reducible refine gate_dst (N := 5) rfl ?_); refine bx_ (N := 5) (cs := #[.int .i64 0, .int .i64 0]) (t := 39) ?_; intro gb626 hg w15 hbox hb; have n_ := a_ (Aside0.mk (Kd.V_below (Kd.V_elderB (by (with_reducible repeat (first | apply Kd.V_alloc | apply Kd.V_drewN | apply Kd.V_drew)); exact HO_623001.out) gb626 (Nat.le_of_eq hg.symm)) hb)) (a_ (bb_ BK617 hb) (a_ (bb_ BK622 hb) (a_ (bs_ HB hb) (a_ (Aside0.mk hbox) (a_ (gs_ HB hg) (a_ (gs_ HB hg) (a_ (nl_ BK617 hg) (a_ (ng_ BK617 hg) (a_ (nl_ BK622 hg) (ng_ BK622 hg)))))))))); clear HO_623001 BK617 BK622 HB; obtain ⟨HO_623001, BK617, BK622, HB, BK626, GW626, GE626, NB617_626, NB626_617, NB622_626, NB626_622⟩ := n_; clear hb hbox hg; have hnb16 := NB626_617.out; have hnc16 := NB617_626.out; have hnb17 := NB626_622.out; have hnc17 := NB622_626.out; obtain ⟨hcz18_0, hcz18_1, hfz18_0, hfz18_1⟩ := cz2_ BK626))
      have n0_ : Aside0 (Kd.V (Kd.int .i64) 3 ((w15.setCell ⟨gb626, 0, none⟩ (.int .i64 t624)).setCell ⟨gb626, 1, none⟩ (.int .i64 t625)) w.heap.size (fun k_ => (w.heap.size ≤ k_) ∧ k_ ≠ gb617 ∧ k_ ≠ gb622 ∧ k_ ≠ gb626) u623001 x623001_1) := ⟨by (with_reducible repeat (first | apply Kd.V_alloc | apply Kd.V_drewN | apply Kd.V_drew)); exact Kd.V_mono (Kd.V_far (p := ⟨gb626, 1, none⟩) (Kd.V_far (p := ⟨gb626, 0, none⟩) (Kd.V_mono HO_623001.out (fun k_ hk => (⟨hk, hk.2⟩ : _ ∧ k_ ≠ gb626))) (fun _ hk => hk.2) (.int .i64 t624)) (fun _ hk => hk.2) (.int .i64 t625)) (fun _ hk => ⟨hk.1.1.1, ⟨hk.1.1.2.1, ⟨hk.1.1.2.2, hk.1.2⟩⟩⟩)⟩
      have n1_ : Aside0 (((w15.setCell ⟨gb626, 0, none⟩ (.int .i64 t624)).setCell ⟨gb626, 1, none⟩ (.int .i64 t625)).heap[gb617]? = some (.cells #[.int .i64 0, .slice none 0 0] 24 (0, 0))) := ⟨by (with_reducible repeat (first | refine blk_drewN ?_ _ | refine blk_drew ?_ | refine blk_alloc ?_ _)); refine blk_far ?_ NB617_626.out _; (with_reducible repeat (first | refine blk_drewN ?_ _ | refine blk_drew ?_ | refine blk_alloc ?_ _)); refine blk_far ?_ NB617_626.out _; (with_reducible repeat (first | refine blk_drewN ?_ _ | refine blk_drew ?_ | refine blk_alloc ?_ _)); exact BK617.out⟩
      have n2_ : Aside0 (((w15.setCell ⟨gb626, 0, none⟩ (.int .i64 t624)).setCell ⟨gb626, 1, none⟩ (.int .i64 t625)).heap[gb622]? = some (.cells #[.int .i64 x623000_1, u623001] 24 (0, 0))) := ⟨by (with_reducible repeat (first | refine blk_drewN ?_ _ | refine blk_drew ?_ | refine blk_alloc ?_ _)); refine blk_far ?_ NB622_626.out _; (with_reducible repeat (first | refine blk_drewN ?_ _ | refine blk_drew ?_ | refine blk_alloc ?_ _)); refine blk_far ?_ NB622_626.out _; (with_reducible repeat (first | refine blk_drewN ?_ _ | refine blk_drew ?_ | refine blk_alloc ?_ _)); exact BK622.out⟩
      have n3_ : Aside0 (((w15.setCell ⟨gb626, 0, none⟩ (.int .i64 t624)).setCell ⟨gb626, 1, none⟩ (.int .i64 t625)).heap[gb626]? = some (.cells #[.int .i64 t624, .int .i64 t625] 39 (0, 0))) := ⟨by (with_reducible repeat (first | refine blk_drewN ?_ _ | refine blk_drew ?_ | refine blk_alloc ?_ _)); refine blk_put (cs := #[.int .i64 t624, .int .i64 0]) ?_ 1 _ rfl; (with_reducible repeat (first | refine blk_drewN ?_ _ | refine blk_drew ?_ | refine blk_alloc ?_ _)); refine blk_put (cs := #[.int .i64 0, .int .i64 0]) ?_ 0 _ rfl; (with_reducible repeat (first | refine blk_drewN ?_ _ | refine blk_drew ?_ | refine blk_alloc ?_ _)); exact BK626.out⟩
      have n4_ : Aside0 (Below w.heap.size w ((w15.setCell ⟨gb626, 0, none⟩ (.int .i64 t624)).setCell ⟨gb626, 1, none⟩ (.int .i64 t625))) := ⟨HB_⟩
      (try clear HO_623001)
      (try clear BK617)
      (try clear BK622)
      (try clear BK626)
      (try clear HB)
      generalize ((w15.setCell ⟨gb626, 0, none⟩ (.int .i64 t624)).setCell ⟨gb626, 1, none⟩ (.int .i64 t625)) = w19 at n0_ n1_ n2_ n3_ n4_ ⊢
      have HO_623001 := n0_
      have BK617 := n1_
      have BK622 := n2_
      have BK626 := n3_
      have HB := n4_
      clear n0_ n1_ n2_ n3_ n4_
      have n_ := a_ (Aside0.mk (Kd.V_drew HO_623001.out)) (a_ (Aside0.mk (blk_drew BK617.out)) (a_ (Aside0.mk (blk_drew BK622.out)) (a_ (Aside0.mk (blk_drew BK626.out)) (Aside0.mk (below_drew1 HB.out)))))
      clear HO_623001 BK617 BK622 BK626 HB
      obtain ⟨HO_623001, BK617, BK622, BK626, HB⟩ := n_
      obtain ⟨Ao21, co21, eo21⟩ := Kd.V_slice HO_623001.out
      (first | subst eo21 | (injection eo21 with f1_ f2_ f3_; have f4_ := f1_.symm; have f5_ := f3_.symm; clear f1_ f2_ f3_; subst f4_; subst f5_))
      refine start_ (n := 13) (S := fun w' => w'.cell? ⟨gb622, 0, none⟩ = some (.int .i64 x623000_1) ∧ w'.cell? ⟨gb622, 1, none⟩ = some (.slice Ao21 x623001_1.length co21) ∧ w'.cell? ⟨gb626, 0, none⟩ = some (.int .i64 t624) ∧ w'.cell? ⟨gb626, 1, none⟩ = some (.int .i64 t625)) (ds := [12]) #[false, false, false, false, false, false, false, false, false, false, false, false, false] (by kernel_rfl) rfl rfl ⟨(blk_cell BK622.out 0).trans rfl, (blk_cell BK622.out 1).trans rfl, (blk_cell BK626.out 0).trans rfl, (blk_cell BK626.out 1).trans rfl⟩ (fun hHeld => ?_); refine with_tabW warrantorref09_Box.tab6 warrantorref09_Box.bits6 (fun HT_ HW_ => ?_)
      generalize w19.drew = w20 at HO_623001 BK617 BK622 BK626 HB hHeld ⊢
      refine pu_ 1 (some 21) ?_
      refine pu_ 2 (some 22) ?_
      refine pu_ 3 (some 23) ?_
      refine pu_ 6 (some 26) ?_
      refine pu_ 7 (some 27) ?_
      refine pu_ 8 (some 28) ?_
      refine take_ (i := 0) (N := some 20) (v := ?_) (a' := ?_) #[true, true, true, true, false, false, true, true, true, false, false, false, false] rfl rfl (take_ofW HT_.out HW_.out (by kernel_rfl)) (fun _ _ _ h => h) (Or.inl ⟨by rfl, ?_⟩) hHeld ?_ ?_
      rotate_left
      · rintro w' ⟨s0, s1, s2, s3⟩
        go_simp
        with_reducible rfl
      rotate_left
      · exact AP_
      refine take_ (i := 4) (N := some 24) (v := ?_) (a' := ?_) #[true, true, true, true, true, false, true, true, true, false, false, false, false] rfl rfl (take_ofW HT_.out HW_.out (by kernel_rfl)) (fun _ _ _ h => h) (Or.inl ⟨by rfl, ?_⟩) hHeld ?_ ?_
      rotate_left
      · rintro w' ⟨s0, s1, s2, s3⟩
        go_simp
        with_reducible rfl
      rotate_left
      · exact AP_
      refine take_ (i := 9) (N := some 29) (v := ?_) (a' := ?_) #[true, true, true, true, true, false, true, true, true, true, false, false, false] rfl rfl (take_ofW HT_.out HW_.out (by kernel_rfl)) (fun _ _ _ h => h) (Or.inl ⟨by rfl, ?_⟩) hHeld ?_ ?_
      rotate_left
      · rintro w' ⟨s0, s1, s2, s3⟩
        go_simp
        with_reducible rfl
      rotate_left
      · exact AP_
      refine pu_ 10 (some 30) ?_
      refine on_ 5 (some 25) (fun K hK => ?_)
      refine goes_ Try.func32 (by kernel_rfl) rfl #[.agg #[.int .i64 x623000_1, .slice Ao21 x623001_1.length co21], .int .i64 (wrap64 (x4_1 + 1)), .int .i64 0, .int .i64 t625] (by rfl) rfl rfl MP_ ?_
      with_reducible refine (warrantorref09_Limit.calls k1 x623000_1 (fun k_ => ((w.heap.size ≤ k_) ∧ (k_ ≠ gb617 ∧ (k_ ≠ gb622 ∧ k_ ≠ gb626)))) _ _ x623001_1 (wrap64 (x4_1 + 1)) 0 t625 t627 t628 _ ?side1 A12.out).mono ?_
      (case side1 => exact HO_623001.out)
      rintro e w22 ⟨v629, rfl, ho0, hb⟩
      refine ⟨_, rfl, ?_⟩
      have n_ := a_ (Aside0.mk (Kd.V_below (by (with_reducible repeat (first | apply Kd.V_alloc | apply Kd.V_drewN | apply Kd.V_drew)); exact HO_623001.out) hb)) (a_ (Aside0.mk (Kd.V_lower (Kd.V_mono (ok' := fun k_ => (w.heap.size ≤ k_) ∧ k_ ≠ gb617 ∧ k_ ≠ gb622 ∧ k_ ≠ gb626) ho0 (fun k_ hk_ => ⟨Or.elim hk_ (fun hs_ => hs_.1) (fun hn_ => (Nat.le_trans (below_size HB_) hn_)), Or.elim hk_ (fun hs_ => hs_.2.1) (fun hn_ => (Kd.freshB (g := gb617) (o := .cells #[.int .i64 0, .slice none 0 0] 24 (0, 0)) (bk_ BK617.out) k_ hn_)), Or.elim hk_ (fun hs_ => hs_.2.2.1) (fun hn_ => (Kd.freshB (g := gb622) (o := .cells #[.int .i64 x623000_1, .slice Ao21 x623001_1.length co21] 24 (0, 0)) (bk_ BK622.out) k_ hn_)), Or.elim hk_ (fun hs_ => hs_.2.2.2) (fun hn_ => (Kd.freshB (g := gb626) (o := .cells #[.int .i64 t624, .int .i64 t625] 39 (0, 0)) (bk_ BK626.out) k_ hn_))⟩)) (below_size HB_))) (a_ (bb_ BK617 hb) (a_ (bb_ BK622 hb) (a_ (bb_ BK626 hb) (bs_ HB hb)))))
      clear HO_623001 BK617 BK622 BK626 HB
      obtain ⟨HO_623001, HO630, BK617, BK622, BK626, HB⟩ := n_
      (try clear hb)
      (try clear hb2)
      (try clear hk)
      (try clear hi)
      (try clear ho0)
      obtain ⟨Ao23, co23, eo23⟩ := Kd.V_slice HO630.out
      (first | subst eo23 | (injection eo23 with f1_ f2_ f3_; have f4_ := f1_.symm; have f5_ := f3_.symm; clear f1_ f2_ f3_; subst f4_; subst f5_))
      refine hK.out _ _ ⟨(blk_cell BK622.out 0).trans rfl, (blk_cell BK622.out 1).trans rfl, (blk_cell BK626.out 0).trans rfl, (blk_cell BK626.out 1).trans rfl⟩ (fun hHeld => ?_)
      clear hK K
      refine nm_ ?_
      refine on_ 11 (some 31) (fun K hK => ?_)
      refine goes_ Try.func32 (by kernel_rfl) rfl #[.agg #[.int .i64 t627, .slice Ao23 t628.length co23], .int .i64 0, .int .i64 (wrap64 (x4_1 + 1)), .int .i64 (wrap64 (-t624))] (by rfl) rfl rfl MP_ ?_
      with_reducible refine (warrantorref09_Limit.calls k1 t627 (fun k_ => ((w.heap.size ≤ k_) ∧ (k_ ≠ gb617 ∧ (k_ ≠ gb622 ∧ k_ ≠ gb626)))) _ _ t628 0 (wrap64 (x4_1 + 1)) (wrap64 (-t624)) t631 t632 _ ?side1 A13.out).mono ?_
      (case side1 => exact HO630.out)
      rintro e w24 ⟨v633, rfl, ho0, hb⟩
      refine ⟨_, rfl, ?_⟩
      have n_ := a_ (Aside0.mk (Kd.V_below (by (with_reducible repeat (first | apply Kd.V_alloc | apply Kd.V_drewN | apply Kd.V_drew)); exact HO_623001.out) hb)) (a_ (Aside0.mk (Kd.V_below (by (with_reducible repeat (first | apply Kd.V_alloc | apply Kd.V_drewN | apply Kd.V_drew)); exact HO630.out) hb)) (a_ (Aside0.mk (Kd.V_lower (Kd.V_mono (ok' := fun k_ => (w.heap.size ≤ k_) ∧ k_ ≠ gb617 ∧ k_ ≠ gb622 ∧ k_ ≠ gb626) ho0 (fun k_ hk_ => ⟨Or.elim hk_ (fun hs_ => hs_.1) (fun hn_ => (Nat.le_trans (below_size HB_) hn_)), Or.elim hk_ (fun hs_ => hs_.2.1) (fun hn_ => (Kd.freshB (g := gb617) (o := .cells #[.int .i64 0, .slice none 0 0] 24 (0, 0)) (bk_ BK617.out) k_ hn_)), Or.elim hk_ (fun hs_ => hs_.2.2.1) (fun hn_ => (Kd.freshB (g := gb622) (o := .cells #[.int .i64 x623000_1, .slice Ao21 x623001_1.length co21] 24 (0, 0)) (bk_ BK622.out) k_ hn_)), Or.elim hk_ (fun hs_ => hs_.2.2.2) (fun hn_ => (Kd.freshB (g := gb626) (o := .cells #[.int .i64 t624, .int .i64 t625] 39 (0, 0)) (bk_ BK626.out) k_ hn_))⟩)) (below_size HB_))) (a_ (bb_ BK617 hb) (a_ (bb_ BK622 hb) (a_ (bb_ BK626 hb) (bs_ HB hb))))))
      clear HO_623001 HO630 BK617 BK622 BK626 HB
      obtain ⟨HO_623001, HO630, HO634, BK617, BK622, BK626, HB⟩ := n_
      (try clear hb)
      (try clear hb2)
      (try clear hk)
      (try clear hi)
      (try clear ho0)
      obtain ⟨Ao26, co26, eo26⟩ := Kd.V_slice HO634.out
      (first | subst eo26 | (injection eo26 with f1_ f2_ f3_; have f4_ := f1_.symm; have f5_ := f3_.symm; clear f1_ f2_ f3_; subst f4_; subst f5_))
      refine hK.out _ _ ⟨(blk_cell BK622.out 0).trans rfl, (blk_cell BK622.out 1).trans rfl, (blk_cell BK626.out 0).trans rfl, (blk_cell BK626.out 1).trans rfl⟩ (fun hHeld => ?_)
      clear hK K
      refine nm_ ?_
      refine last_ (i := 12) (N := none) #[true, true, true, true, true, true, true, true, true, true, true, true, true] rfl rfl (one_of HT_.out (by kernel_rfl)) (by decide) (fun K hK => ?_)
      have hs25 : w24.cell? ⟨gb622, 0, none⟩ = some (.int .i64 x623000_1) := (blk_cell BK622.out 0).trans rfl
      have hfs25 := blk_frozen BK622.out 0
      have hns25_0 := NB617_622.out
      have hns25_2 := NB626_622.out
      have hms25_0 := NB622_617.out
      have hms25_2 := NB622_626.out
      have hs27 : w24.cell? ⟨gb622, 1, none⟩ = some (.slice Ao21 x623001_1.length co21) := (blk_cell BK622.out 1).trans rfl
      have hfs27 := blk_frozen BK622.out 1
      have hns27_0 := NB617_622.out
      have hns27_2 := NB626_622.out
      have hms27_0 := NB622_617.out
      have hms27_2 := NB622_626.out
      refine skip_ (w1 := ?_) (by rfl) rfl ?_ ?_
      rotate_left
      · go_simp
        rfl
      refine hK.out _ _ ?_
      clear hK K
      refine done_ (done_of HT_.out (by kernel_rfl)) ?_
      try go_wp2
      go_roundg k1
      case measure => have := HK1.out; omega
      case rel => exact ⟨(wrap64 (x4_1 + 1)), (t631), (t632), (.slice Ao26 t632.length co26), (by first | rfl | (simp; done) | (simp [*]; done)), H', ⟨by have := HK1.out; omega⟩, ⟨by (with_reducible repeat (first | apply Kd.V_alloc | apply Kd.V_drewN | apply Kd.V_drew)); exact Kd.V_mono (Kd.V_far (p := ⟨gb622, 1, none⟩) (Kd.V_far (p := ⟨gb622, 0, none⟩) (Kd.V_mono HO634.out (fun k_ hk => (⟨hk, hk.2.2.1⟩ : _ ∧ k_ ≠ gb622))) (fun _ hk => hk.2) (.int .i64 t631)) (fun _ hk => hk.2) (.slice Ao26 t632.length co26)) (fun _ hk => ⟨hk.1.1, ⟨hk.1.2.1, hk.1.2.2.1⟩⟩)⟩, ⟨by (with_reducible repeat (first | refine blk_drewN ?_ _ | refine blk_drew ?_ | refine blk_alloc ?_ _)); refine blk_far ?_ NB617_622.out _; (with_reducible repeat (first | refine blk_drewN ?_ _ | refine blk_drew ?_ | refine blk_alloc ?_ _)); refine blk_far ?_ NB617_622.out _; (with_reducible repeat (first | refine blk_drewN ?_ _ | refine blk_drew ?_ | refine blk_alloc ?_ _)); exact BK617.out⟩, ⟨by (with_reducible repeat (first | refine blk_drewN ?_ _ | refine blk_drew ?_ | refine blk_alloc ?_ _)); refine blk_put (cs := #[.int .i64 t631, .slice Ao21 x623001_1.length co21]) ?_ 1 _ rfl; (with_reducible repeat (first | refine blk_drewN ?_ _ | refine blk_drew ?_ | refine blk_alloc ?_ _)); refine blk_put (cs := #[.int .i64 x623000_1, .slice Ao21 x623001_1.length co21]) ?_ 0 _ rfl; (with_reducible repeat (first | refine blk_drewN ?_ _ | refine blk_drew ?_ | refine blk_alloc ?_ _)); exact BK622.out⟩, ⟨HB_⟩⟩
/-! ### dbm_Empty: function 52 -/
def dbm_Empty.f (k : Nat) (a0_0 : Int) (l0_1 : List Int) : Option (Bool) := (dbm_Check.f k a0_0 l0_1).bind fun t636 => (if t636 = 0 then (some ((l0_1.length : Int) == 0)) else (some false))
theorem dbm_Empty.mono : ∀ a0 a1 k, LeO (dbm_Empty.f k a0 a1) (dbm_Empty.f (k + 1) a0 a1) := by
  intro a0 a1 k
  unfold dbm_Empty.f
  repeat' first
      | (with_reducible exact dbm_Check.mono _ _ _)
      | (with_reducible exact LeO.refl _)
      | (with_reducible exact LeO.none _)
      | (with_reducible refine LeO.ite ?_ ?_)
      | (with_reducible refine LeO.bind ?_ (fun _ => ?_))
      | exact dbm_Check.mono _ _ _
      | exact LeO.none _
      | refine LeO.ite ?_ ?_
      | refine LeO.bind ?_ (fun _ => ?_)
set_option maxHeartbeats 8000000 in
set_option maxRecDepth 100000 in
theorem dbm_Empty.calls (k : Nat) (a0_0 : Int) (A0_1 : Option Addr) (c0_1 : Nat) (l0_1 : List Int) (r : Bool) (w : World) (hr0_1 : Kd.C (Kd.int .i64) w A0_1 l0_1.length l0_1) (hc0_1 : l0_1.length ≤ c0_1) (h : dbm_Empty.f k a0_0 l0_1 = some r) :
    Calls Try.prog 52 #[.agg #[.int .i64 a0_0, .slice A0_1 l0_1.length c0_1]] w fun e w' => e = .returned (.bool r) ∧ Below w.heap.size w w' := by
  have hu24 := Try.underlying24
  have HR0_1 := Aside0.mk hr0_1
  have HC0_1 := Aside0.mk hc0_1
  clear hr0_1 hc0_1
  have HB := Aside0.mk (Below.refl w.heap.size w)
  have H : ((dbm_Check.f k a0_0 l0_1).bind fun t636 => (if t636 = 0 then (some ((l0_1.length : Int) == 0)) else (some false))) = some r := h
  clear h
  replace H := bd_ H
  obtain ⟨t636, A2, H⟩ := H
  (try dsimp only at H)
  by_cases c3 : t636 = 0
  rotate_left
  · rw [if_neg c3] at H
    have c3b0 : (t636 == 0) = false := beq_eq_false_iff_ne.mpr c3
    have c3b1 : (t636 != 0) = true := bne_iff_ne.mpr c3
    obtain rfl := Option.some.inj H
    go_enter Try.func52, Try.ntmps52
    go_wp2_with (first | ((with_reducible refine gate_dst (N := 1) rfl ?_); (try (refine gate_guard (by rfl) ?_; dsimp only)); refine bx_ (N := 1) (cs := #[.int .i64 a0_0, .slice A0_1 l0_1.length c0_1]) (t := 24) ?_; intro gb635 hg w8 hbox hb; have n_ := a_ (bs_ HB hb) (a_ (Aside0.mk hbox) (a_ (gs_ HB hg) (gs_ HB hg))); clear HB; obtain ⟨HB, BK635, GW635, GE635⟩ := n_; clear hb hbox hg; obtain ⟨hcz9_0, hcz9_1, hfz9_0, hfz9_1⟩ := cz2_ BK635) | ((with_reducible refine gate_callee (f := 91) rfl ?_); refine goesL_ (some 4) rfl rfl Try.func91 (by kernel_rfl) rfl #[.agg #[.int .i64 a0_0, .slice A0_1 l0_1.length c0_1]] rfl MP_ ?_; (with_reducible refine (dbm_Check.calls k a0_0 _ _ l0_1 t636 _ ?side1 ?side2 A2.out).mono ?_); (case side1 => exact sd_ (Kd.C_below HR0_1.out HB.out)); (case side2 => exact HC0_1.out); rintro e w10 ⟨rfl, hb⟩; refine ⟨_, rfl, ?_⟩; have n_ := a_ (bb_ BK635 hb) (bs_ HB hb); clear BK635 HB; obtain ⟨BK635, HB⟩ := n_; (try clear hb); (try clear hb2); (try clear hk); (try clear hi)))
    go_ret
    exact ⟨by first | rfl | (simp [errW_none, errW_some] <;> rfl) | (simp [*, errW_none, errW_some] <;> rfl), HB_⟩

  rw [if_pos c3] at H
  have c3b0 : (t636 == 0) = true := beq_iff_eq.mpr c3
  have c3b1 : (t636 != 0) = false := bne_eq_false_iff_eq.mpr c3
  clear c3
  obtain rfl := Option.some.inj H
  go_enter Try.func52, Try.ntmps52
  go_wp2_with (first | ((with_reducible refine gate_dst (N := 1) rfl ?_); (try (refine gate_guard (by rfl) ?_; dsimp only)); refine bx_ (N := 1) (cs := #[.int .i64 a0_0, .slice A0_1 l0_1.length c0_1]) (t := 24) ?_; intro gb635 hg w4 hbox hb; have n_ := a_ (bs_ HB hb) (a_ (Aside0.mk hbox) (a_ (gs_ HB hg) (gs_ HB hg))); clear HB; obtain ⟨HB, BK635, GW635, GE635⟩ := n_; clear hb hbox hg; obtain ⟨hcz5_0, hcz5_1, hfz5_0, hfz5_1⟩ := cz2_ BK635) | ((with_reducible refine gate_callee (f := 91) rfl ?_); refine goesL_ (some 4) rfl rfl Try.func91 (by kernel_rfl) rfl #[.agg #[.int .i64 a0_0, .slice A0_1 l0_1.length c0_1]] rfl MP_ ?_; (with_reducible refine (dbm_Check.calls k a0_0 _ _ l0_1 t636 _ ?side1 ?side2 A2.out).mono ?_); (case side1 => exact sd_ (Kd.C_below HR0_1.out HB.out)); (case side2 => exact HC0_1.out); rintro e w6 ⟨rfl, hb⟩; refine ⟨_, rfl, ?_⟩; have n_ := a_ (bb_ BK635 hb) (bs_ HB hb); clear BK635 HB; obtain ⟨BK635, HB⟩ := n_; (try clear hb); (try clear hb2); (try clear hk); (try clear hi); obtain ⟨hcz7_0, hcz7_1, hfz7_0, hfz7_1⟩ := cz2_ BK635))
  go_ret
  exact ⟨by first | rfl | (simp [errW_none, errW_some] <;> rfl) | (simp [*, errW_none, errW_some] <;> rfl), HB_⟩
end Go.Proofs.Ytgeemdpflcefkaa.Z
