-- WRITTEN BY this session's program wip/ext.py, in print.py's manner
import Derived.Test.YtgeemdpflcefkaaZx0
import Derived.Test.YtgeemdpflcefkaaZx33
namespace Go.Proofs.Ytgeemdpflcefkaa.Z
open Go.RowKit Go.Proofs.YtgeemdpflcefkaaW.PrintWords Go.Proofs.YtgeemdpflcefkaaW.PrintLast Go.Proofs.YtgeemdpflcefkaaW.PrintMore
attribute [local go_sem] max2_int min2_int max_two min_two max_three min_three max_four min_four   -- for this text's walks alone
set_option linter.unusedVariables false
set_option linter.unusedSimpArgs false

/-! ### warrantorref08_twice: function 101 -/
mutual
def warrantorref08_twice.l0 : Nat → Int → List Int → List Int → Int → Option (List Int)
  | 0, _, _, _, _ => none
  | k + 1, x0, x1, x5, x6 => if x6 ≤ x0 then (warrantorref08_twice.l1 k x0 x1 x5 x6 0) else (some x5)
def warrantorref08_twice.l1 : Nat → Int → List Int → List Int → Int → Int → Option (List Int)
  | 0, _, _, _, _, _ => none
  | k + 1, x0, x1, x5, x6, x7 => if x7 ≤ x0 then (if 0 ≤ (wrap64 ((wrap64 (x6 * (wrap64 (x0 + 1)))) + x7)) then (if (wrap64 ((wrap64 (x6 * (wrap64 (x0 + 1)))) + x7)) < (x1.length : Int) then (warrantorref08_twice.l2 k x0 x1 x5 x6 x7 (rd x1 (wrap64 ((wrap64 (x6 * (wrap64 (x0 + 1)))) + x7))) 0) else (none)) else (none)) else (warrantorref08_twice.l0 k x0 x1 x5 (wrap64 (x6 + 1)))
def warrantorref08_twice.l2 : Nat → Int → List Int → List Int → Int → Int → Int → Int → Option (List Int)
  | 0, _, _, _, _, _, _, _ => none
  | k + 1, x0, x1, x5, x6, x7, x8, x9 => if x9 ≤ x0 then (if 0 ≤ (wrap64 ((wrap64 (x6 * (wrap64 (x0 + 1)))) + x9)) then (if (wrap64 ((wrap64 (x6 * (wrap64 (x0 + 1)))) + x9)) < (x1.length : Int) then (if 0 ≤ (wrap64 ((wrap64 (x9 * (wrap64 (x0 + 1)))) + x7)) then (if (wrap64 ((wrap64 (x9 * (wrap64 (x0 + 1)))) + x7)) < (x1.length : Int) then (if (wrap64 ((rd x1 (wrap64 ((wrap64 (x6 * (wrap64 (x0 + 1)))) + x9))) + (rd x1 (wrap64 ((wrap64 (x9 * (wrap64 (x0 + 1)))) + x7))))) < x8 then (warrantorref08_twice.l2 k x0 x1 x5 x6 x7 (wrap64 ((rd x1 (wrap64 ((wrap64 (x6 * (wrap64 (x0 + 1)))) + x9))) + (rd x1 (wrap64 ((wrap64 (x9 * (wrap64 (x0 + 1)))) + x7))))) (wrap64 (x9 + 1))) else (warrantorref08_twice.l2 k x0 x1 x5 x6 x7 x8 (wrap64 (x9 + 1)))) else (none)) else (none)) else (none)) else (none)) else (if x5.length < 17592186044416 then (warrantorref08_twice.l1 k x0 x1 (x5 ++ [x8]) x6 (wrap64 (x7 + 1))) else (none))
end
def warrantorref08_twice.f (k : Nat) (a0 : Int) (l1 : List Int) : Option (List Int) := warrantorref08_twice.l0 k a0 l1 ([] : List Int) 0
theorem warrantorref08_twice.mono_l : ∀ k, (∀ y0 y1 y2 y3, LeO (warrantorref08_twice.l0 k y0 y1 y2 y3) (warrantorref08_twice.l0 (k + 1) y0 y1 y2 y3)) ∧ (∀ y0 y1 y2 y3 y4, LeO (warrantorref08_twice.l1 k y0 y1 y2 y3 y4) (warrantorref08_twice.l1 (k + 1) y0 y1 y2 y3 y4)) ∧ (∀ y0 y1 y2 y3 y4 y5 y6, LeO (warrantorref08_twice.l2 k y0 y1 y2 y3 y4 y5 y6) (warrantorref08_twice.l2 (k + 1) y0 y1 y2 y3 y4 y5 y6))
  | 0 => ⟨fun _ _ _ _ r h => by simp [warrantorref08_twice.l0] at h, fun _ _ _ _ _ r h => by simp [warrantorref08_twice.l1] at h, fun _ _ _ _ _ _ _ r h => by simp [warrantorref08_twice.l2] at h⟩
  | k + 1 => by
    obtain ⟨ih0, ih1, ih2⟩ := warrantorref08_twice.mono_l k
    refine ⟨?_, ?_, ?_⟩
    · intro y0 y1 y2 y3
      unfold warrantorref08_twice.l0
      repeat' first
      | (with_reducible exact ih0 _ _ _ _)
      | (with_reducible exact ih1 _ _ _ _ _)
      | (with_reducible exact ih2 _ _ _ _ _ _ _)
      | (with_reducible exact LeO.refl _)
      | (with_reducible exact LeO.none _)
      | (with_reducible refine LeO.ite ?_ ?_)
      | (with_reducible refine LeO.bind ?_ (fun _ => ?_))
      | exact ih0 _ _ _ _
      | exact ih1 _ _ _ _ _
      | exact ih2 _ _ _ _ _ _ _
      | exact LeO.none _
      | refine LeO.ite ?_ ?_
      | refine LeO.bind ?_ (fun _ => ?_)
    · intro y0 y1 y2 y3 y4
      unfold warrantorref08_twice.l1
      repeat' first
      | (with_reducible exact ih0 _ _ _ _)
      | (with_reducible exact ih1 _ _ _ _ _)
      | (with_reducible exact ih2 _ _ _ _ _ _ _)
      | (with_reducible exact LeO.refl _)
      | (with_reducible exact LeO.none _)
      | (with_reducible refine LeO.ite ?_ ?_)
      | (with_reducible refine LeO.bind ?_ (fun _ => ?_))
      | exact ih0 _ _ _ _
      | exact ih1 _ _ _ _ _
      | exact ih2 _ _ _ _ _ _ _
      | exact LeO.none _
      | refine LeO.ite ?_ ?_
      | refine LeO.bind ?_ (fun _ => ?_)
    · intro y0 y1 y2 y3 y4 y5 y6
      unfold warrantorref08_twice.l2
      repeat' first
      | (with_reducible exact ih0 _ _ _ _)
      | (with_reducible exact ih1 _ _ _ _ _)
      | (with_reducible exact ih2 _ _ _ _ _ _ _)
      | (with_reducible exact LeO.refl _)
      | (with_reducible exact LeO.none _)
      | (with_reducible refine LeO.ite ?_ ?_)
      | (with_reducible refine LeO.bind ?_ (fun _ => ?_))
      | exact ih0 _ _ _ _
      | exact ih1 _ _ _ _ _
      | exact ih2 _ _ _ _ _ _ _
      | exact LeO.none _
      | refine LeO.ite ?_ ?_
      | refine LeO.bind ?_ (fun _ => ?_)
theorem warrantorref08_twice.mono : ∀ a0 a1 k, LeO (warrantorref08_twice.f k a0 a1) (warrantorref08_twice.f (k + 1) a0 a1) := by
  intro a0 a1 k
  obtain ⟨ih0, ih1, ih2⟩ := warrantorref08_twice.mono_l k
  unfold warrantorref08_twice.f
  repeat' first
      | (with_reducible exact ih0 _ _ _ _)
      | (with_reducible exact ih1 _ _ _ _ _)
      | (with_reducible exact ih2 _ _ _ _ _ _ _)
      | (with_reducible exact LeO.refl _)
      | (with_reducible exact LeO.none _)
      | (with_reducible refine LeO.ite ?_ ?_)
      | (with_reducible refine LeO.bind ?_ (fun _ => ?_))
      | exact ih0 _ _ _ _
      | exact ih1 _ _ _ _ _
      | exact ih2 _ _ _ _ _ _ _
      | exact LeO.none _
      | refine LeO.ite ?_ ?_
      | refine LeO.bind ?_ (fun _ => ?_)
set_option maxHeartbeats 8000000 in
set_option maxRecDepth 100000 in
theorem warrantorref08_twice.calls (k : Nat) (a0 : Int) (A1 : Option Addr) (c1 : Nat) (l1 : List Int) (r : List Int) (w : World) (hr1 : Kd.C (Kd.int .i64) w A1 l1.length l1) (hc1 : l1.length ≤ c1) (h : warrantorref08_twice.f k a0 l1 = some r) :
    Calls Try.prog 101 #[.int .i64 a0, .slice A1 l1.length c1] w fun e w' => ∃ v0_ : Value, e = .returned (v0_) ∧ Kd.R (Kd.int .i64) 3 w' w.heap.size (fun _ => True) v0_ r ∧ Below w.heap.size w w' := by
  have HR1 := Aside0.mk hr1
  have HC1 := Aside0.mk hc1
  clear hr1 hc1
  have HB := Aside0.mk (Below.refl w.heap.size w)
  have H : (warrantorref08_twice.l0 k a0 l1 ([] : List Int) 0) = some r := h
  clear h
  have H' := Aside0.mk H
  clear H
  go_enter Try.func101, Try.ntmps101
  go_wp2
  repeat (go_quiet (fail); try go_wp2)
  go_loopg [5, 6] k (fun kq v5 v6 w' => ∃ (x5_1 : List Int) (x6_1 : Int), v6 = .int .i64 x6_1 ∧ Aside0 (warrantorref08_twice.l0 kq a0 l1 x5_1 x6_1 = some r) ∧ Aside0 (kq ≤ k) ∧ Aside0 (Kd.R (Kd.int .i64) 3 w' w.heap.size (fun _ => True) v5 x5_1) ∧ Aside0 (Below w.heap.size w w'))
  case atStart => exact ⟨(([] : List Int)), (0), (by first | rfl | (simp; done) | (simp [*]; done)), H', ⟨Nat.le_refl _⟩, ⟨by first | exact Kd.R_nil _ _ _ _ _ | exact Kd.N_nil _ _ _ _ _ | exact Kd.V_nil _ _ _ _ _ | exact Kd.Q_nil _ _ _ _ _ | exact Kd.S_nil _ _ _ _ _⟩, ⟨HB_⟩⟩
  case round =>
    clear H'
    try clear c1
    try clear p2
    obtain ⟨x5_1, x6_1, rfl, HA, HK1, HO_5, HB⟩ := hrel
    cases gk with
    | zero => exact absurd HA.out (by simp [warrantorref08_twice.l0])
    | succ k1 =>
      have H := HA.out
      clear HA
      simp only [warrantorref08_twice.l0] at H
      by_cases c3 : x6_1 ≤ a0
      rotate_left
      · rw [if_neg c3] at H
        have c3b0 : decide (x6_1 ≤ a0) = false := decide_eq_false c3
        clear c3
        obtain rfl := Option.some.inj H
        go_wp2
        repeat (go_quiet (fail); try go_wp2)
        go_ret
        exact ⟨_, by first | rfl | (simp [errW_none, errW_some] <;> rfl) | (simp [*, errW_none, errW_some] <;> rfl), by (with_reducible repeat (first | apply Kd.R_alloc | apply Kd.R_drewN | apply Kd.R_drew)); exact HO_5.out, HB_⟩

      rw [if_pos c3] at H
      have c3b0 : decide (x6_1 ≤ a0) = true := decide_eq_true c3
      clear c3
      have H' := Aside0.mk H
      clear H
      go_wp2
      repeat (go_quiet (fail); try go_wp2)
      go_loopg [5, 7] k1 (fun kq v5 v7 w' => ∃ (x5_2 : List Int) (x7_2 : Int), v7 = .int .i64 x7_2 ∧ Aside0 (warrantorref08_twice.l1 kq a0 l1 x5_2 x6_1 x7_2 = some r) ∧ Aside0 (kq ≤ k1) ∧ Aside0 (Kd.R (Kd.int .i64) 3 w' w.heap.size (fun _ => True) v5 x5_2) ∧ Aside0 (Below w.heap.size w w'))
      case atStart => exact ⟨(x5_1), (0), (by first | rfl | (simp; done) | (simp [*]; done)), H', ⟨Nat.le_refl _⟩, ⟨by (with_reducible repeat (first | apply Kd.R_alloc | apply Kd.R_drewN | apply Kd.R_drew)); exact HO_5.out⟩, ⟨HB_⟩⟩
      case round =>
        clear H'
        try clear c1
        try clear p2
        try clear c3
        try clear c3b0
        try clear p2
        obtain ⟨x5_2, x7_2, rfl, HA, HK2, HO_5, HB⟩ := hrel
        cases gk with
        | zero => exact absurd HA.out (by simp [warrantorref08_twice.l1])
        | succ k2 =>
          have H := HA.out
          clear HA
          simp only [warrantorref08_twice.l1] at H
          by_cases c4 : x7_2 ≤ a0
          rotate_left
          · rw [if_neg c4] at H
            have c4b0 : decide (x7_2 ≤ a0) = false := decide_eq_false c4
            clear c4
            have H' := Aside0.mk H
            clear H
            go_wp2
            repeat (go_quiet (fail); try go_wp2)
            go_roundg k2
            case measure => have := HK1.out; have := HK2.out; omega
            case rel => exact ⟨(x5_2), (wrap64 (x6_1 + 1)), (by first | rfl | (simp; done) | (simp [*]; done)), H', ⟨by have := HK1.out; have := HK2.out; omega⟩, ⟨by (with_reducible repeat (first | apply Kd.R_alloc | apply Kd.R_drewN | apply Kd.R_drew)); exact HO_5.out⟩, ⟨HB_⟩⟩
          rw [if_pos c4] at H
          have c4b0 : decide (x7_2 ≤ a0) = true := decide_eq_true c4
          clear c4
          obtain ⟨ji5, hji5⟩ : ∃ j_ : Int, (wrap64 ((wrap64 (x6_1 * (wrap64 (a0 + 1)))) + x7_2)) = j_ := ⟨_, rfl⟩
          replace H : (if 0 ≤ (ji5) then (if (ji5) < (l1.length : Int) then (warrantorref08_twice.l2 k2 a0 l1 x5_2 x6_1 x7_2 (rd l1 (ji5)) 0) else (none)) else (none)) = some r := by first | (rw [hji5] at H; exact H) | (simp only [hji5] at H ⊢; exact H)
          have hji5w : (IntKind.i64.wrap ((wrap64 (x6_1 * (wrap64 (a0 + 1)))) + x7_2)) = ji5 := (i64_w _).trans hji5
          have hji5v : (IntKind.i64.wrap ((IntKind.i64.wrap (x6_1 * (IntKind.i64.wrap (a0 + 1)))) + x7_2)) = ji5 := by (try simp only [i64_w]); first | exact hji5 | exact hji5w
          replace H := yes_ H
          obtain ⟨c6, H⟩ := H
          have c6b0 : decide (0 ≤ (ji5)) = true := decide_eq_true c6
          clear c6
          replace H := yes_ H
          obtain ⟨c7, H⟩ := H
          have c7b0 : decide ((ji5) < (l1.length : Int)) = true := decide_eq_true c7
          clear c7
          have H' := Aside0.mk H
          clear H
          have p370 : 0 ≤ ((ji5) : Int) := of_decide_eq_true (by first | (with_reducible assumption) | assumption)
          have q370 : (ji5) < (l1.length : Int) := of_decide_eq_true (by first | (with_reducible assumption) | assumption)
          obtain ⟨ad370, e370, hx370_0⟩ := Kd.at_int HR1.out (ji5) p370 q370
          cases e370
          first | (replace hx370_0 := (HB.out.cell (World.block_lt_of_cell? w _ hx370_0)).trans hx370_0) | skip
          replace p370 := eq_true p370
          replace q370 := eq_true q370
          go_wp2
          repeat (go_quiet (fail); try go_wp2)
          go_loopg [8, 9] k2 (fun kq v8 v9 w' => ∃ (x8_3 : Int) (x9_3 : Int), v8 = .int .i64 x8_3 ∧ v9 = .int .i64 x9_3 ∧ Aside0 (warrantorref08_twice.l2 kq a0 l1 x5_2 x6_1 x7_2 x8_3 x9_3 = some r) ∧ Aside0 (kq ≤ k2) ∧ Aside0 (Kd.R (Kd.int .i64) 3 w' w.heap.size (fun _ => True) u5 x5_2) ∧ Aside0 (Below w.heap.size w w'))
          case atStart => exact ⟨(rd l1 (ji5)), (0), (by first | rfl | (simp; done) | (simp only [← hji5] <;> (first | rfl | simp)) | (simp [*]; done)), (by first | rfl | (simp; done) | (simp [*]; done)), H', ⟨Nat.le_refl _⟩, ⟨by (with_reducible repeat (first | apply Kd.R_alloc | apply Kd.R_drewN | apply Kd.R_drew)); exact HO_5.out⟩, ⟨HB_⟩⟩
          case round =>
            clear H'
            try clear c1
            try clear p2
            try clear c3
            try clear c3b0
            try clear p3
            try clear q3
            try clear hx3
            try clear c4
            try clear c4b0
            try clear c6
            try clear c6b0
            try clear p6
            try clear c7
            try clear c7b0
            try clear hx370_0
            try clear p2
            try clear p370
            try clear q370
            obtain ⟨x8_3, x9_3, rfl, rfl, HA, HK3, HO_5, HB⟩ := hrel
            cases gk with
            | zero => exact absurd HA.out (by simp [warrantorref08_twice.l2])
            | succ k3 =>
              have H := HA.out
              clear HA
              simp only [warrantorref08_twice.l2] at H
              by_cases c8 : x9_3 ≤ a0
              rotate_left
              · rw [if_neg c8] at H
                have c8b0 : decide (x9_3 ≤ a0) = false := decide_eq_false c8
                clear c8
                replace H := yes_ H
                obtain ⟨c16, H⟩ := H
                have LMc16 := Aside0.mk c16
                clear c16
                obtain ⟨y373, hy373⟩ : ∃ y_ : List Int, y_ = (x5_2 ++ [x8_3]) := ⟨_, rfl⟩
                replace H : (warrantorref08_twice.l1 k3 a0 l1 y373 x6_1 (wrap64 (x7_2 + 1))) = some r := by first | (rw [hy373]; with_reducible exact H) | (have H2_ := (Option.bind_some _ _).symm.trans H; rw [hy373]; with_reducible exact H2_) | (have H2_ := (Option.bind_some _ _).symm.trans H; with_reducible exact H2_) | with_reducible exact H | (rw [hy373]; exact H) | exact H
                have Ny373 := Aside0.mk hy373
                clear hy373
                have H' := Aside0.mk H
                clear H
                go_wp2_with (first | ((with_reducible refine gate_builtin (b := .append) (xs := #[.tmp 58, .tmp 60]) rfl ?_); at_builtin; refine Kd.R_append (Kd.int .i64) (w0 := w) w.heap.size rfl (.tmp 58) (.tmp 60) 22 3 (.int .i64 0) 8 rfl Try.underlying22 info3 rfl (by decide) (by omega) u5 x5_2 x8_3 [.int .i64 x8_3] (fun _ => True) (fun _ => False) rfl rfl ?aP (fun _ hk => hk.elim) ?aF ?aO ?aB ?aS ?aL ?_; (case aP => exact rfl); (case aB => exact HB_); (case aF => exact (fun _ _ => trivial)); (case aO => exact (rd_ HO_5.out)); (case aS => exact (below_size HB_)); (case aL => have := LMc16.out; omega); intro v374 w17 ho hb hg hat; rw [← Ny373.out] at ho; have n_ := a_ (Aside0.mk hb) (Aside0.mk ho); clear HB HO_5; obtain ⟨HB, HO375⟩ := n_; clear ho hb hg hat))
                repeat (go_quiet (first | ((with_reducible refine gate_builtin (b := .append) (xs := #[.tmp 58, .tmp 60]) rfl ?_); at_builtin; refine Kd.R_append (Kd.int .i64) (w0 := w) w.heap.size rfl (.tmp 58) (.tmp 60) 22 3 (.int .i64 0) 8 rfl Try.underlying22 info3 rfl (by decide) (by omega) u5 x5_2 x8_3 [.int .i64 x8_3] (fun _ => True) (fun _ => False) rfl rfl ?aP (fun _ hk => hk.elim) ?aF ?aO ?aB ?aS ?aL ?_; (case aP => exact rfl); (case aB => exact HB_); (case aF => exact (fun _ _ => trivial)); (case aO => exact (rd_ HO_5.out)); (case aS => exact (below_size HB_)); (case aL => have := LMc16.out; omega); intro v374 w17 ho hb hg hat; rw [← Ny373.out] at ho; have n_ := a_ (Aside0.mk hb) (Aside0.mk ho); clear HB HO_5; obtain ⟨HB, HO375⟩ := n_; clear ho hb hg hat)); try go_wp2_with (first | ((with_reducible refine gate_builtin (b := .append) (xs := #[.tmp 58, .tmp 60]) rfl ?_); at_builtin; refine Kd.R_append (Kd.int .i64) (w0 := w) w.heap.size rfl (.tmp 58) (.tmp 60) 22 3 (.int .i64 0) 8 rfl Try.underlying22 info3 rfl (by decide) (by omega) u5 x5_2 x8_3 [.int .i64 x8_3] (fun _ => True) (fun _ => False) rfl rfl ?aP (fun _ hk => hk.elim) ?aF ?aO ?aB ?aS ?aL ?_; (case aP => exact rfl); (case aB => exact HB_); (case aF => exact (fun _ _ => trivial)); (case aO => exact (rd_ HO_5.out)); (case aS => exact (below_size HB_)); (case aL => have := LMc16.out; omega); intro v374 w17 ho hb hg hat; rw [← Ny373.out] at ho; have n_ := a_ (Aside0.mk hb) (Aside0.mk ho); clear HB HO_5; obtain ⟨HB, HO375⟩ := n_; clear ho hb hg hat)))
                go_roundg k3
                case measure => have := HK1.out; have := HK2.out; have := HK3.out; omega
                case rel => exact ⟨(y373), (wrap64 (x7_2 + 1)), (by first | rfl | (simp; done) | (simp [*]; done)), H', ⟨by have := HK1.out; have := HK2.out; have := HK3.out; omega⟩, ⟨by (with_reducible repeat (first | apply Kd.R_alloc | apply Kd.R_drewN | apply Kd.R_drew)); exact HO375.out⟩, ⟨HB_⟩⟩
              rw [if_pos c8] at H
              have c8b0 : decide (x9_3 ≤ a0) = true := decide_eq_true c8
              clear c8
              obtain ⟨ji9, hji9⟩ : ∃ j_ : Int, (wrap64 ((wrap64 (x6_1 * (wrap64 (a0 + 1)))) + x9_3)) = j_ := ⟨_, rfl⟩
              replace H : (if 0 ≤ (ji9) then (if (ji9) < (l1.length : Int) then (if 0 ≤ (wrap64 ((wrap64 (x9_3 * (wrap64 (a0 + 1)))) + x7_2)) then (if (wrap64 ((wrap64 (x9_3 * (wrap64 (a0 + 1)))) + x7_2)) < (l1.length : Int) then (if (wrap64 ((rd l1 (ji9)) + (rd l1 (wrap64 ((wrap64 (x9_3 * (wrap64 (a0 + 1)))) + x7_2))))) < x8_3 then (warrantorref08_twice.l2 k3 a0 l1 x5_2 x6_1 x7_2 (wrap64 ((rd l1 (ji9)) + (rd l1 (wrap64 ((wrap64 (x9_3 * (wrap64 (a0 + 1)))) + x7_2))))) (wrap64 (x9_3 + 1))) else (warrantorref08_twice.l2 k3 a0 l1 x5_2 x6_1 x7_2 x8_3 (wrap64 (x9_3 + 1)))) else (none)) else (none)) else (none)) else (none)) = some r := by first | (rw [hji9] at H; exact H) | (simp only [hji9] at H ⊢; exact H)
              have hji9w : (IntKind.i64.wrap ((wrap64 (x6_1 * (wrap64 (a0 + 1)))) + x9_3)) = ji9 := (i64_w _).trans hji9
              have hji9v : (IntKind.i64.wrap ((IntKind.i64.wrap (x6_1 * (IntKind.i64.wrap (a0 + 1)))) + x9_3)) = ji9 := by (try simp only [i64_w]); first | exact hji9 | exact hji9w
              replace H := yes_ H
              obtain ⟨c10, H⟩ := H
              have c10b0 : decide (0 ≤ (ji9)) = true := decide_eq_true c10
              clear c10
              replace H := yes_ H
              obtain ⟨c11, H⟩ := H
              have c11b0 : decide ((ji9) < (l1.length : Int)) = true := decide_eq_true c11
              clear c11
              obtain ⟨ji12, hji12⟩ : ∃ j_ : Int, (wrap64 ((wrap64 (x9_3 * (wrap64 (a0 + 1)))) + x7_2)) = j_ := ⟨_, rfl⟩
              replace H : (if 0 ≤ (ji12) then (if (ji12) < (l1.length : Int) then (if (wrap64 ((rd l1 (ji9)) + (rd l1 (ji12)))) < x8_3 then (warrantorref08_twice.l2 k3 a0 l1 x5_2 x6_1 x7_2 (wrap64 ((rd l1 (ji9)) + (rd l1 (ji12)))) (wrap64 (x9_3 + 1))) else (warrantorref08_twice.l2 k3 a0 l1 x5_2 x6_1 x7_2 x8_3 (wrap64 (x9_3 + 1)))) else (none)) else (none)) = some r := by first | (rw [hji12] at H; exact H) | (simp only [hji12] at H ⊢; exact H)
              have hji12w : (IntKind.i64.wrap ((wrap64 (x9_3 * (wrap64 (a0 + 1)))) + x7_2)) = ji12 := (i64_w _).trans hji12
              have hji12v : (IntKind.i64.wrap ((IntKind.i64.wrap (x9_3 * (IntKind.i64.wrap (a0 + 1)))) + x7_2)) = ji12 := by (try simp only [i64_w]); first | exact hji12 | exact hji12w
              replace H := yes_ H
              obtain ⟨c13, H⟩ := H
              have c13b0 : decide (0 ≤ (ji12)) = true := decide_eq_true c13
              clear c13
              replace H := yes_ H
              obtain ⟨c14, H⟩ := H
              have c14b0 : decide ((ji12) < (l1.length : Int)) = true := decide_eq_true c14
              clear c14
              by_cases c15 : (wrap64 ((rd l1 (ji9)) + (rd l1 (ji12)))) < x8_3
              rotate_left
              · rw [if_neg c15] at H
                have c15b0 : decide ((wrap64 ((rd l1 (ji9)) + (rd l1 (ji12)))) < x8_3) = false := decide_eq_false c15
                have c15b0v : decide ((IntKind.i64.wrap ((rd l1 (ji9)) + (rd l1 (ji12)))) < x8_3) = false := by (try simp only [i64_w]); exact c15b0
                clear c15
                have H' := Aside0.mk H
                clear H
                have p371 : 0 ≤ ((ji9) : Int) := of_decide_eq_true (by first | (with_reducible assumption) | assumption)
                have q371 : (ji9) < (l1.length : Int) := of_decide_eq_true (by first | (with_reducible assumption) | assumption)
                obtain ⟨ad371, e371, hx371_0⟩ := Kd.at_int HR1.out (ji9) p371 q371
                obtain rfl : ad370 = ad371 := (by injection e371)
                first | (replace hx371_0 := (HB.out.cell (World.block_lt_of_cell? w _ hx371_0)).trans hx371_0) | skip
                replace p371 := eq_true p371
                replace q371 := eq_true q371
                have p372 : 0 ≤ ((ji12) : Int) := of_decide_eq_true (by first | (with_reducible assumption) | assumption)
                have q372 : (ji12) < (l1.length : Int) := of_decide_eq_true (by first | (with_reducible assumption) | assumption)
                obtain ⟨ad372, e372, hx372_0⟩ := Kd.at_int HR1.out (ji12) p372 q372
                obtain rfl : ad370 = ad372 := (by injection e372)
                first | (replace hx372_0 := (HB.out.cell (World.block_lt_of_cell? w _ hx372_0)).trans hx372_0) | skip
                replace p372 := eq_true p372
                replace q372 := eq_true q372
                go_wp2
                repeat (go_quiet (fail); try go_wp2)
                go_roundg k3
                case measure => have := HK1.out; have := HK2.out; have := HK3.out; omega
                case rel => exact ⟨(x8_3), (wrap64 (x9_3 + 1)), (by first | rfl | (simp; done) | (simp [*]; done)), (by first | rfl | (simp; done) | (simp [*]; done)), H', ⟨by have := HK1.out; have := HK2.out; have := HK3.out; omega⟩, ⟨by (with_reducible repeat (first | apply Kd.R_alloc | apply Kd.R_drewN | apply Kd.R_drew)); exact HO_5.out⟩, ⟨HB_⟩⟩
              rw [if_pos c15] at H
              have c15b0 : decide ((wrap64 ((rd l1 (ji9)) + (rd l1 (ji12)))) < x8_3) = true := decide_eq_true c15
              have c15b0v : decide ((IntKind.i64.wrap ((rd l1 (ji9)) + (rd l1 (ji12)))) < x8_3) = true := by (try simp only [i64_w]); exact c15b0
              clear c15
              have H' := Aside0.mk H
              clear H
              have p371 : 0 ≤ ((ji9) : Int) := of_decide_eq_true (by first | (with_reducible assumption) | assumption)
              have q371 : (ji9) < (l1.length : Int) := of_decide_eq_true (by first | (with_reducible assumption) | assumption)
              obtain ⟨ad371, e371, hx371_0⟩ := Kd.at_int HR1.out (ji9) p371 q371
              obtain rfl : ad370 = ad371 := (by injection e371)
              first | (replace hx371_0 := (HB.out.cell (World.block_lt_of_cell? w _ hx371_0)).trans hx371_0) | skip
              replace p371 := eq_true p371
              replace q371 := eq_true q371
              have p372 : 0 ≤ ((ji12) : Int) := of_decide_eq_true (by first | (with_reducible assumption) | assumption)
              have q372 : (ji12) < (l1.length : Int) := of_decide_eq_true (by first | (with_reducible assumption) | assumption)
              obtain ⟨ad372, e372, hx372_0⟩ := Kd.at_int HR1.out (ji12) p372 q372
              obtain rfl : ad370 = ad372 := (by injection e372)
              first | (replace hx372_0 := (HB.out.cell (World.block_lt_of_cell? w _ hx372_0)).trans hx372_0) | skip
              replace p372 := eq_true p372
              replace q372 := eq_true q372
              go_wp2
              repeat (go_quiet (fail); try go_wp2)
              go_roundg k3
              case measure => have := HK1.out; have := HK2.out; have := HK3.out; omega
              case rel => exact ⟨(wrap64 ((rd l1 (ji9)) + (rd l1 (ji12)))), (wrap64 (x9_3 + 1)), (by first | rfl | (simp; done) | (simp only [← hji9, ← hji12] <;> (first | rfl | simp)) | (simp [*]; done)), (by first | rfl | (simp; done) | (simp [*]; done)), H', ⟨by have := HK1.out; have := HK2.out; have := HK3.out; omega⟩, ⟨by (with_reducible repeat (first | apply Kd.R_alloc | apply Kd.R_drewN | apply Kd.R_drew)); exact HO_5.out⟩, ⟨HB_⟩⟩
/-! ### warrantorref08_Close: function 76 -/
mutual
def warrantorref08_Close.l0 : Nat → Int → List Int → Int → Option (Int × List Int)
  | 0, _, _, _ => none
  | k + 1, x0, x5, x6 => if x6 < 4 then ((warrantorref08_twice.f k x0 x5).bind fun t380 => (warrantorref08_Close.l0 k x0 t380 (wrap64 (x6 + 1)))) else (warrantorref08_Close.l1 k x0 x5 0)
def warrantorref08_Close.l1 : Nat → Int → List Int → Int → Option (Int × List Int)
  | 0, _, _, _ => none
  | k + 1, x0, x5, x7 => if x7 ≤ x0 then (if 0 ≤ (wrap64 ((wrap64 (x7 * (wrap64 (x0 + 1)))) + x7)) then (if (wrap64 ((wrap64 (x7 * (wrap64 (x0 + 1)))) + x7)) < (x5.length : Int) then (if (rd x5 (wrap64 ((wrap64 (x7 * (wrap64 (x0 + 1)))) + x7))) < 0 then (some (x0, ([] : List Int))) else (warrantorref08_Close.l1 k x0 x5 (wrap64 (x7 + 1)))) else (none)) else (none)) else (some (x0, x5))
end
def warrantorref08_Close.f (k : Nat) (a0 : Int) (l1 : List Int) : Option (Int × List Int) := (warrantorref08_clip.f k a0 l1).bind fun t377 => (warrantorref08_Close.l0 k a0 t377 0)
theorem warrantorref08_Close.mono_l : ∀ k, (∀ y0 y1 y2, LeO (warrantorref08_Close.l0 k y0 y1 y2) (warrantorref08_Close.l0 (k + 1) y0 y1 y2)) ∧ (∀ y0 y1 y2, LeO (warrantorref08_Close.l1 k y0 y1 y2) (warrantorref08_Close.l1 (k + 1) y0 y1 y2))
  | 0 => ⟨fun _ _ _ r h => by simp [warrantorref08_Close.l0] at h, fun _ _ _ r h => by simp [warrantorref08_Close.l1] at h⟩
  | k + 1 => by
    obtain ⟨ih0, ih1⟩ := warrantorref08_Close.mono_l k
    refine ⟨?_, ?_⟩
    · intro y0 y1 y2
      unfold warrantorref08_Close.l0
      repeat' first
      | (with_reducible exact ih0 _ _ _)
      | (with_reducible exact ih1 _ _ _)
      | (with_reducible exact warrantorref08_clip.mono _ _ _)
      | (with_reducible exact warrantorref08_twice.mono _ _ _)
      | (with_reducible exact LeO.refl _)
      | (with_reducible exact LeO.none _)
      | (with_reducible refine LeO.ite ?_ ?_)
      | (with_reducible refine LeO.bind ?_ (fun _ => ?_))
      | exact ih0 _ _ _
      | exact ih1 _ _ _
      | exact warrantorref08_clip.mono _ _ _
      | exact warrantorref08_twice.mono _ _ _
      | exact LeO.none _
      | refine LeO.ite ?_ ?_
      | refine LeO.bind ?_ (fun _ => ?_)
    · intro y0 y1 y2
      unfold warrantorref08_Close.l1
      repeat' first
      | (with_reducible exact ih0 _ _ _)
      | (with_reducible exact ih1 _ _ _)
      | (with_reducible exact warrantorref08_clip.mono _ _ _)
      | (with_reducible exact warrantorref08_twice.mono _ _ _)
      | (with_reducible exact LeO.refl _)
      | (with_reducible exact LeO.none _)
      | (with_reducible refine LeO.ite ?_ ?_)
      | (with_reducible refine LeO.bind ?_ (fun _ => ?_))
      | exact ih0 _ _ _
      | exact ih1 _ _ _
      | exact warrantorref08_clip.mono _ _ _
      | exact warrantorref08_twice.mono _ _ _
      | exact LeO.none _
      | refine LeO.ite ?_ ?_
      | refine LeO.bind ?_ (fun _ => ?_)
theorem warrantorref08_Close.mono : ∀ a0 a1 k, LeO (warrantorref08_Close.f k a0 a1) (warrantorref08_Close.f (k + 1) a0 a1) := by
  intro a0 a1 k
  obtain ⟨ih0, ih1⟩ := warrantorref08_Close.mono_l k
  unfold warrantorref08_Close.f
  repeat' first
      | (with_reducible exact ih0 _ _ _)
      | (with_reducible exact ih1 _ _ _)
      | (with_reducible exact warrantorref08_clip.mono _ _ _)
      | (with_reducible exact warrantorref08_twice.mono _ _ _)
      | (with_reducible exact LeO.refl _)
      | (with_reducible exact LeO.none _)
      | (with_reducible refine LeO.ite ?_ ?_)
      | (with_reducible refine LeO.bind ?_ (fun _ => ?_))
      | exact ih0 _ _ _
      | exact ih1 _ _ _
      | exact warrantorref08_clip.mono _ _ _
      | exact warrantorref08_twice.mono _ _ _
      | exact LeO.none _
      | refine LeO.ite ?_ ?_
      | refine LeO.bind ?_ (fun _ => ?_)
set_option maxHeartbeats 8000000 in
set_option maxRecDepth 100000 in
theorem warrantorref08_Close.calls (k : Nat) (a0 : Int) (A1 : Option Addr) (c1 : Nat) (l1 : List Int) (r1 : Int) (r2 : List Int) (w : World) (hr1 : Kd.C (Kd.int .i64) w A1 l1.length l1) (hc1 : l1.length ≤ c1) (h : warrantorref08_Close.f k a0 l1 = some (r1, r2)) :
    Calls Try.prog 76 #[.int .i64 a0, .slice A1 l1.length c1] w fun e w' => ∃ v1_ : Value, e = .returned (.agg #[.int .i64 r1, v1_]) ∧ Kd.R (Kd.int .i64) 3 w' w.heap.size (fun _ => True) v1_ r2 ∧ Below w.heap.size w w' := by
  have hu24 := Try.underlying24
  have HR1 := Aside0.mk hr1
  have HC1 := Aside0.mk hc1
  clear hr1 hc1
  have HB := Aside0.mk (Below.refl w.heap.size w)
  have H : ((warrantorref08_clip.f k a0 l1).bind fun t377 => (warrantorref08_Close.l0 k a0 t377 0)) = some (r1, r2) := h
  clear h
  replace H := Option.bind_eq_some_iff.mp H
  obtain ⟨t377, A30, H⟩ := H
  replace H : (warrantorref08_Close.l0 k a0 t377 0) = some (r1, r2) := H
  have A3 := Aside0.mk A30
  clear A30
  have H' := Aside0.mk H
  clear H
  go_enter Try.func76, Try.ntmps76
  go_wp2_with (first | ((with_reducible refine gate_dst (N := 4) rfl ?_); refine bx_ (N := 4) (cs := #[.int .i64 0, .slice none 0 0]) (t := 24) ?_; intro gb376 hg w4 hbox hb; have n_ := a_ (bs_ HB hb) (a_ (Aside0.mk hbox) (a_ (gs_ HB hg) (gs_ HB hg))); clear HB; obtain ⟨HB, BK376, GW376, GE376⟩ := n_; clear hb hbox hg) | ((with_reducible refine gate_callee (f := 100) rfl ?_); refine goesL_ (some 10) rfl rfl Try.func100 (by kernel_rfl) rfl #[.int .i64 a0, .slice A1 l1.length c1] rfl MP_ ?_; (with_reducible refine (warrantorref08_clip.calls k a0 _ _ l1 t377 _ ?side1 ?side2 A3.out).mono ?_); (case side1 => exact sd_ (Kd.C_below HR1.out HB.out)); (case side2 => exact HC1.out); rintro e w5 ⟨v378, rfl, ho0, hb⟩; refine ⟨_, rfl, ?_⟩; have n_ := a_ (Aside0.mk (Kd.R_lower ho0 (below_size HB_))) (a_ (bb_ BK376 hb) (bs_ HB hb)); clear BK376 HB; obtain ⟨HO379, BK376, HB⟩ := n_; (try clear hb); (try clear hb2); (try clear hk); (try clear hi); (try clear ho0)))
  go_loopg [5, 6] k (fun kq v5 v6 w' => ∃ (x5_1 : List Int) (x6_1 : Int), v6 = .int .i64 x6_1 ∧ Aside0 (warrantorref08_Close.l0 kq a0 x5_1 x6_1 = some (r1, r2)) ∧ Aside0 (kq ≤ k) ∧ Aside0 (Kd.R (Kd.int .i64) 3 w' w.heap.size (fun _ => True) v5 x5_1) ∧ Aside0 (w'.heap[gb376]? = some (.cells #[.int .i64 0, (.slice none 0 0)] 24 (0, 0))) ∧ Aside0 (Below w.heap.size w w'))
  case atStart => exact ⟨(t377), (0), (by first | rfl | (simp; done) | (simp [*]; done)), H', ⟨Nat.le_refl _⟩, ⟨by (with_reducible repeat (first | apply Kd.R_alloc | apply Kd.R_drewN | apply Kd.R_drew)); exact HO379.out⟩, ⟨by (with_reducible repeat (first | refine blk_drewN ?_ _ | refine blk_drew ?_ | refine blk_alloc ?_ _)); exact BK376.out⟩, ⟨HB_⟩⟩
  case round =>
    clear H'
    try clear c1
    try clear p2
    obtain ⟨x5_1, x6_1, rfl, HA, HK1, HO_5, BK376, HB⟩ := hrel
    cases gk with
    | zero => exact absurd HA.out (by simp [warrantorref08_Close.l0])
    | succ k1 =>
      have H := HA.out
      clear HA
      simp only [warrantorref08_Close.l0] at H
      by_cases c6 : x6_1 < 4
      · rw [if_pos c6] at H
        have c6b0 : decide (x6_1 < 4) = true := decide_eq_true c6
        clear c6
        replace H := Option.bind_eq_some_iff.mp H
        obtain ⟨t380, A70, H⟩ := H
        replace H : (warrantorref08_Close.l0 k1 a0 t380 (wrap64 (x6_1 + 1))) = some (r1, r2) := H
        have A7 := Aside0.mk A70
        clear A70
        have H' := Aside0.mk H
        clear H
        obtain ⟨Ao8, co8, eo8⟩ := Kd.R_slice HO_5.out
        subst eo8
        go_wp2_with (first | ((with_reducible refine gate_callee (f := 101) rfl ?_); refine goesL_ (some 17) rfl rfl Try.func101 (by kernel_rfl) rfl #[.int .i64 a0, .slice Ao8 x5_1.length co8] rfl MP_ ?_; (with_reducible refine (warrantorref08_twice.calls k1 a0 _ _ x5_1 t380 _ ?side1 ?side2 A7.out).mono ?_); (case side1 => repeat (first | exact (Kd.R_reads' HO_5.out).2.2 | (with_reducible refine Kd.C_alloc ?_ _) | (with_reducible refine Kd.C_drewN ?_ _) | (with_reducible refine Kd.C_drew ?_))); (case side2 => exact (Kd.R_reads' HO_5.out).2.1); rintro e w9 ⟨v381, rfl, ho0, hb⟩; refine ⟨_, rfl, ?_⟩; have n_ := a_ (Aside0.mk (Kd.R_elder' (rd_ HO_5.out) (Kd.R_base ho0) hb)) (a_ (Aside0.mk (Kd.R_lower (Kd.R_new' ho0 (Kd.R_lt (rd_ HO_5.out))) (below_size HB_))) (a_ (bb_ BK376 hb) (bs_ HB hb))); clear HO_5 BK376 HB; obtain ⟨HO_5, HO382, BK376, HB⟩ := n_; (try clear hb); (try clear hb2); (try clear hk); (try clear hi); (try clear ho0)))
        go_roundg k1
        case measure => have := HK1.out; omega
        case rel => exact ⟨(t380), (wrap64 (x6_1 + 1)), (by first | rfl | (simp; done) | (simp [*]; done)), H', ⟨by have := HK1.out; omega⟩, ⟨by (with_reducible repeat (first | apply Kd.R_alloc | apply Kd.R_drewN | apply Kd.R_drew)); exact Kd.R_mono HO382.out (fun _ hk => trivial)⟩, ⟨by (with_reducible repeat (first | refine blk_drewN ?_ _ | refine blk_drew ?_ | refine blk_alloc ?_ _)); exact BK376.out⟩, ⟨HB_⟩⟩
      rw [if_neg c6] at H
      have c6b0 : decide (x6_1 < 4) = false := decide_eq_false c6
      clear c6
      have H' := Aside0.mk H
      clear H
      go_wp2
      go_loopg [7] k1 (fun kq v7 w' => ∃ (x7_2 : Int) (x377000_2 : Int), v7 = .int .i64 x7_2 ∧ Aside0 (warrantorref08_Close.l1 kq a0 x5_1 x7_2 = some (r1, r2)) ∧ Aside0 (kq ≤ k1) ∧ Aside0 (Kd.R (Kd.int .i64) 3 w' w.heap.size (fun _ => True) u5 x5_1) ∧ Aside0 (w'.heap[gb376]? = some (.cells #[.int .i64 x377000_2, (.slice none 0 0)] 24 (0, 0))) ∧ Aside0 (Below w.heap.size w w'))
      case atStart => exact ⟨(0), (0), (by first | rfl | (simp; done) | (simp [*]; done)), H', ⟨Nat.le_refl _⟩, ⟨by (with_reducible repeat (first | apply Kd.R_alloc | apply Kd.R_drewN | apply Kd.R_drew)); exact HO_5.out⟩, ⟨by (with_reducible repeat (first | refine blk_drewN ?_ _ | refine blk_drew ?_ | refine blk_alloc ?_ _)); exact BK376.out⟩, ⟨HB_⟩⟩
      case round =>
        clear H'
        try clear c1
        try clear p2
        try clear c6
        try clear c6b0
        try clear p6
        try clear c7
        try clear p2
        obtain ⟨x7_2, x377000_2, rfl, HA, HK2, HO_5, BK376, HB⟩ := hrel
        cases gk with
        | zero => exact absurd HA.out (by simp [warrantorref08_Close.l1])
        | succ k2 =>
          have H := HA.out
          clear HA
          simp only [warrantorref08_Close.l1] at H
          by_cases c10 : x7_2 ≤ a0
          rotate_left
          · rw [if_neg c10] at H
            have c10b0 : decide (x7_2 ≤ a0) = false := decide_eq_false c10
            clear c10
            simp only [Option.some.injEq, Prod.mk.injEq] at H
            obtain ⟨rfl, rfl⟩ := H
            obtain ⟨Ao18, co18, eo18⟩ := Kd.R_slice HO_5.out
            subst eo18
            obtain ⟨hcz19_0, hcz19_1, hfz19_0, hfz19_1⟩ := cz2_ BK376
            go_wp2
            refine bodyPost_ret (results_cell_row rfl _ _ gb376 24 #[.int .i64 a0, .slice Ao18 x5_1.length co18] (0, 0) _ rfl (bk2_ BK376.out) Try.underlying24 rfl (by kernel_rfl)) rfl ?_
            exact ⟨_, by first | rfl | (simp [errW_none, errW_some] <;> rfl) | (simp [*, errW_none, errW_some] <;> rfl), by (with_reducible repeat (first | apply Kd.R_alloc | apply Kd.R_drewN | apply Kd.R_drew)); exact Kd.R_mono (Kd.R_far (p := ⟨gb376, 1, none⟩) (Kd.R_far (p := ⟨gb376, 0, none⟩) (Kd.R_types HO_5.out BK376.out (by decide)) (fun _ hk => hk.2) (.int .i64 a0)) (fun _ hk => hk.2) (.slice Ao18 x5_1.length co18)) (fun _ hk => trivial), HB_⟩

          rw [if_pos c10] at H
          have c10b0 : decide (x7_2 ≤ a0) = true := decide_eq_true c10
          clear c10
          obtain ⟨ji11, hji11⟩ : ∃ j_ : Int, (wrap64 ((wrap64 (x7_2 * (wrap64 (a0 + 1)))) + x7_2)) = j_ := ⟨_, rfl⟩
          replace H : (if 0 ≤ (ji11) then (if (ji11) < (x5_1.length : Int) then (if (rd x5_1 (ji11)) < 0 then (some (a0, ([] : List Int))) else (warrantorref08_Close.l1 k2 a0 x5_1 (wrap64 (x7_2 + 1)))) else (none)) else (none)) = some (r1, r2) := by first | (rw [hji11] at H; exact H) | (simp only [hji11] at H ⊢; exact H)
          have hji11w : (IntKind.i64.wrap ((wrap64 (x7_2 * (wrap64 (a0 + 1)))) + x7_2)) = ji11 := (i64_w _).trans hji11
          have hji11v : (IntKind.i64.wrap ((IntKind.i64.wrap (x7_2 * (IntKind.i64.wrap (a0 + 1)))) + x7_2)) = ji11 := by (try simp only [i64_w]); first | exact hji11 | exact hji11w
          replace H := yes_ H
          obtain ⟨c12, H⟩ := H
          have c12b0 : decide (0 ≤ (ji11)) = true := decide_eq_true c12
          clear c12
          replace H := yes_ H
          obtain ⟨c13, H⟩ := H
          have c13b0 : decide ((ji11) < (x5_1.length : Int)) = true := decide_eq_true c13
          clear c13
          by_cases c14 : (rd x5_1 (ji11)) < 0
          rotate_left
          · rw [if_neg c14] at H
            have c14b0 : decide ((rd x5_1 (ji11)) < 0) = false := decide_eq_false c14
            clear c14
            have H' := Aside0.mk H
            clear H
            obtain ⟨Ao17, co17, eo17⟩ := Kd.R_slice HO_5.out
            subst eo17
            have p383 : 0 ≤ ((ji11) : Int) := of_decide_eq_true (by first | (with_reducible assumption) | assumption)
            have q383 : (ji11) < (x5_1.length : Int) := of_decide_eq_true (by first | (with_reducible assumption) | assumption)
            obtain ⟨ad383, e383, hx383_0⟩ := Kd.at_int (Kd.R_reads' HO_5.out).2.2 (ji11) p383 q383
            cases e383
            replace p383 := eq_true p383
            replace q383 := eq_true q383
            go_wp2
            go_roundg k2
            case measure => have := HK1.out; have := HK2.out; omega
            case rel => exact ⟨(wrap64 (x7_2 + 1)), (x377000_2), (by first | rfl | (simp; done) | (simp [*]; done)), H', ⟨by have := HK1.out; have := HK2.out; omega⟩, ⟨by (with_reducible repeat (first | apply Kd.R_alloc | apply Kd.R_drewN | apply Kd.R_drew)); exact HO_5.out⟩, ⟨by (with_reducible repeat (first | refine blk_drewN ?_ _ | refine blk_drew ?_ | refine blk_alloc ?_ _)); exact BK376.out⟩, ⟨HB_⟩⟩
          rw [if_pos c14] at H
          have c14b0 : decide ((rd x5_1 (ji11)) < 0) = true := decide_eq_true c14
          clear c14
          simp only [Option.some.injEq, Prod.mk.injEq] at H
          obtain ⟨rfl, rfl⟩ := H
          obtain ⟨Ao15, co15, eo15⟩ := Kd.R_slice HO_5.out
          subst eo15
          have p383 : 0 ≤ ((ji11) : Int) := of_decide_eq_true (by first | (with_reducible assumption) | assumption)
          have q383 : (ji11) < (x5_1.length : Int) := of_decide_eq_true (by first | (with_reducible assumption) | assumption)
          obtain ⟨ad383, e383, hx383_0⟩ := Kd.at_int (Kd.R_reads' HO_5.out).2.2 (ji11) p383 q383
          cases e383
          replace p383 := eq_true p383
          replace q383 := eq_true q383
          obtain ⟨hcz16_0, hcz16_1, hfz16_0, hfz16_1⟩ := cz2_ BK376
          go_wp2
          refine bodyPost_ret (results_cell_row rfl _ _ gb376 24 #[.int .i64 a0, .slice none 0 0] (0, 0) _ rfl (bk2_ BK376.out) Try.underlying24 rfl (by kernel_rfl)) rfl ?_
          exact ⟨_, by first | rfl | (simp [errW_none, errW_some] <;> rfl) | (simp only [← hji11]; first | rfl | (simp [errW_none, errW_some] <;> rfl)) | (simp [*, errW_none, errW_some] <;> rfl), by first | exact Kd.R_nil _ _ _ _ _ | exact Kd.N_nil _ _ _ _ _ | exact Kd.V_nil _ _ _ _ _ | exact Kd.Q_nil _ _ _ _ _ | exact Kd.S_nil _ _ _ _ _, HB_⟩
end Go.Proofs.Ytgeemdpflcefkaa.Z
