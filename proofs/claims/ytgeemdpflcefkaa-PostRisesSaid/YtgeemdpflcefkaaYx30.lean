import Derived.Test.YtgeemdpflcefkaaYx0
import Derived.Test.YtgeemdpflcefkaaYx29
namespace Go.Proofs.Ytgeemdpflcefkaa.Y
open Go.RowKit Go.Proofs.YtgeemdpflcefkaaW.PrintWords Go.Proofs.YtgeemdpflcefkaaW.PrintLast Go.Proofs.YtgeemdpflcefkaaW.PrintMore
attribute [local go_sem] max2_int min2_int max_two min_two max_three min_three max_four min_four   -- for this text's walks alone
set_option linter.unusedVariables false
set_option linter.unusedSimpArgs false
mutual
def warrantorref08_twice.l0 : Nat → Int → List Int → List Int → Int → Option (List Int)
 | 0, _, _, _, _ => none
 | k + 1, x0, x1, x5, x6 => if x6 ≤ x0 then (warrantorref08_twice.l1 k x0 x1 x5 x6 0) else (some x5)
def warrantorref08_twice.l1 : Nat → Int → List Int → List Int → Int → Int → Option (List Int)
 | 0, _, _, _, _, _ => none
 | k + 1, x0, x1, x5, x6, x7 => if x7 ≤ x0 then (if 0 ≤ (wrap64 ((wrap64 (x6 * (wrap64 (x0 + 1)))) + x7)) then (if (wrap64 ((wrap64 (x6 * (wrap64 (x0 + 1)))) + x7)) < (x1.length : Int) then (warrantorref08_twice.l2 k x0 x1 x5 x6 x7 (rd x1 (wrap64 ((wrap64 (x6 * (wrap64 (x0 + 1)))) + x7))) 0) else (none)) else (none)) else (warrantorref08_twice.l0 k x0 x1 x5 (wrap64 (x6 + 1)))
def warrantorref08_twice.l2 : Nat → Int → List Int → List Int → Int → Int → Int → Int → Option (List Int)
 | 0, _, _, _, _, _, _, _ => none
 | k + 1, x0, x1, x5, x6, x7, x8, x9 => if x9 ≤ x0 then (if 0 ≤ (wrap64 ((wrap64 (x6 * (wrap64 (x0 + 1)))) + x9)) then (if (wrap64 ((wrap64 (x6 * (wrap64 (x0 + 1)))) + x9)) < (x1.length : Int) then (if 0 ≤ (wrap64 ((wrap64 (x9 * (wrap64 (x0 + 1)))) + x7)) then (if (wrap64 ((wrap64 (x9 * (wrap64 (x0 + 1)))) + x7)) < (x1.length : Int) then (if (wrap64 ((rd x1 (wrap64 ((wrap64 (x6 * (wrap64 (x0 + 1)))) + x9))) + (rd x1 (wrap64 ((wrap64 (x9 * (wrap64 (x0 + 1)))) + x7))))) < x8 then (warrantorref08_twice.l2 k x0 x1 x5 x6 x7 (wrap64 ((rd x1 (wrap64 ((wrap64 (x6 * (wrap64 (x0 + 1)))) + x9))) + (rd x1 (wrap64 ((wrap64 (x9 * (wrap64 (x0 + 1)))) + x7))))) (wrap64 (x9 + 1))) else (warrantorref08_twice.l2 k x0 x1 x5 x6 x7 x8 (wrap64 (x9 + 1)))) else (none)) else (none)) else (none)) else (none)) else (if x5.length < 17592186044416 then (warrantorref08_twice.l1 k x0 x1 (x5 ++ [x8]) x6 (wrap64 (x7 + 1))) else (none))
end
def warrantorref08_twice.f (k : Nat) (a0 : Int) (l1 : List Int) : Option (List Int) := warrantorref08_twice.l0 k a0 l1 ([] : List Int) 0
theorem warrantorref08_twice.mono_l : ∀ k, (∀ y0 y1 y2 y3, LeO (warrantorref08_twice.l0 k y0 y1 y2 y3) (warrantorref08_twice.l0 (k + 1) y0 y1 y2 y3)) ∧ (∀ y0 y1 y2 y3 y4, LeO (warrantorref08_twice.l1 k y0 y1 y2 y3 y4) (warrantorref08_twice.l1 (k + 1) y0 y1 y2 y3 y4)) ∧ (∀ y0 y1 y2 y3 y4 y5 y6, LeO (warrantorref08_twice.l2 k y0 y1 y2 y3 y4 y5 y6) (warrantorref08_twice.l2 (k + 1) y0 y1 y2 y3 y4 y5 y6))
 | 0 => ⟨fun _ _ _ _ r h => by simp [warrantorref08_twice.l0] at h, fun _ _ _ _ _ r h => by simp [warrantorref08_twice.l1] at h, fun _ _ _ _ _ _ _ r h => by simp [warrantorref08_twice.l2] at h⟩
 | k + 1 => by
  obtain ⟨ih0, ih1, ih2⟩ := warrantorref08_twice.mono_l k
  refine ⟨?_, ?_, ?_⟩
  · intro y0 y1 y2 y3
    unfold warrantorref08_twice.l0
    repeat' first
    | (with_reducible exact ih0 _ _ _ _)
    | (with_reducible exact ih1 _ _ _ _ _)
    | (with_reducible exact ih2 _ _ _ _ _ _ _)
    | (with_reducible exact LeO.refl _)
    | (with_reducible exact LeO.none _)
    | (with_reducible refine LeO.ite ?_ ?_)
    | (with_reducible refine LeO.bind ?_ (fun _ => ?_))
    | exact ih0 _ _ _ _
    | exact ih1 _ _ _ _ _
    | exact ih2 _ _ _ _ _ _ _
    | exact LeO.none _
    | refine LeO.ite ?_ ?_
    | refine LeO.bind ?_ (fun _ => ?_)
  · intro y0 y1 y2 y3 y4
    unfold warrantorref08_twice.l1
    repeat' first
    | (with_reducible exact ih0 _ _ _ _)
    | (with_reducible exact ih1 _ _ _ _ _)
    | (with_reducible exact ih2 _ _ _ _ _ _ _)
    | (with_reducible exact LeO.refl _)
    | (with_reducible exact LeO.none _)
    | (with_reducible refine LeO.ite ?_ ?_)
    | (with_reducible refine LeO.bind ?_ (fun _ => ?_))
    | exact ih0 _ _ _ _
    | exact ih1 _ _ _ _ _
    | exact ih2 _ _ _ _ _ _ _
    | exact LeO.none _
    | refine LeO.ite ?_ ?_
    | refine LeO.bind ?_ (fun _ => ?_)
  · intro y0 y1 y2 y3 y4 y5 y6
    unfold warrantorref08_twice.l2
    repeat' first
    | (with_reducible exact ih0 _ _ _ _)
    | (with_reducible exact ih1 _ _ _ _ _)
    | (with_reducible exact ih2 _ _ _ _ _ _ _)
    | (with_reducible exact LeO.refl _)
    | (with_reducible exact LeO.none _)
    | (with_reducible refine LeO.ite ?_ ?_)
    | (with_reducible refine LeO.bind ?_ (fun _ => ?_))
    | exact ih0 _ _ _ _
    | exact ih1 _ _ _ _ _
    | exact ih2 _ _ _ _ _ _ _
    | exact LeO.none _
    | refine LeO.ite ?_ ?_
    | refine LeO.bind ?_ (fun _ => ?_)
theorem warrantorref08_twice.mono : ∀ a0 a1 k, LeO (warrantorref08_twice.f k a0 a1) (warrantorref08_twice.f (k + 1) a0 a1) := by
 intro a0 a1 k
 obtain ⟨ih0, ih1, ih2⟩ := warrantorref08_twice.mono_l k
 unfold warrantorref08_twice.f
 repeat' first
  | (with_reducible exact ih0 _ _ _ _)
  | (with_reducible exact ih1 _ _ _ _ _)
  | (with_reducible exact ih2 _ _ _ _ _ _ _)
  | (with_reducible exact LeO.refl _)
  | (with_reducible exact LeO.none _)
  | (with_reducible refine LeO.ite ?_ ?_)
  | (with_reducible refine LeO.bind ?_ (fun _ => ?_))
  | exact ih0 _ _ _ _
  | exact ih1 _ _ _ _ _
  | exact ih2 _ _ _ _ _ _ _
  | exact LeO.none _
  | refine LeO.ite ?_ ?_
  | refine LeO.bind ?_ (fun _ => ?_)
set_option maxHeartbeats 8000000 in
set_option maxRecDepth 100000 in
theorem warrantorref08_twice.calls (k : Nat) (a0 : Int) (A1 : Option Addr) (c1 : Nat) (l1 : List Int) (r : List Int) (w : World) (hr1 : Kd.C (Kd.int .i64) w A1 l1.length l1) (hc1 : l1.length ≤ c1) (h : warrantorref08_twice.f k a0 l1 = some r) :
  Calls Try.prog 101 #[.int .i64 a0, .slice A1 l1.length c1] w fun e w' => ∃ v0_ : Value, e = .returned (v0_) ∧ Kd.R (Kd.int .i64) 3 w' w.heap.size (fun _ => True) v0_ r ∧ Below w.heap.size w w' := by
 have HR1 := Aside0.mk hr1
 have HC1 := Aside0.mk hc1
 clear hr1 hc1
 have HB := Aside0.mk (Below.refl w.heap.size w)
 have H : (warrantorref08_twice.l0 k a0 l1 ([] : List Int) 0) = some r := h
 clear h
 have H' := Aside0.mk H
 clear H
 go_enter Try.func101, Try.ntmps101
 go_wp2
 repeat (go_quiet (fail); try go_wp2)
 go_loopg [5, 6] k (fun kq v5 v6 w' => ∃ (x5_1 : List Int) (x6_1 : Int), v6 = .int .i64 x6_1 ∧ Aside0 (warrantorref08_twice.l0 kq a0 l1 x5_1 x6_1 = some r) ∧ Aside0 (kq ≤ k) ∧ Aside0 (Kd.R (Kd.int .i64) 3 w' w.heap.size (fun _ => True) v5 x5_1) ∧ Aside0 (Below w.heap.size w w'))
 case atStart => exact ⟨(([] : List Int)), (0), (by first | rfl | (simp; done) | (simp [*]; done)), H', ⟨Nat.le_refl _⟩, ⟨by first | exact Kd.R_nil _ _ _ _ _ | exact Kd.N_nil _ _ _ _ _ | exact Kd.V_nil _ _ _ _ _ | exact Kd.Q_nil _ _ _ _ _ | exact Kd.S_nil _ _ _ _ _⟩, ⟨HB_⟩⟩
 case round =>
  clear H'
  try clear c1
  try clear p2
  obtain ⟨x5_1, x6_1, rfl, HA, HK1, HO_5, HB⟩ := hrel
  cases gk with
  | zero => exact absurd HA.out (by simp [warrantorref08_twice.l0])
  | succ k1 =>
   have H := HA.out
   clear HA
   simp only [warrantorref08_twice.l0] at H
   by_cases c3 : x6_1 ≤ a0
   rotate_left
   · rw [if_neg c3] at H
     have c3b0 : decide (x6_1 ≤ a0) = false := decide_eq_false c3
     clear c3
     obtain rfl := Option.some.inj H
     go_wp2
     repeat (go_quiet (fail); try go_wp2)
     go_ret
     exact ⟨_, by first | rfl | (simp [errW_none, errW_some] <;> rfl) | (simp [*, errW_none, errW_some] <;> rfl), by (with_reducible repeat (first | apply Kd.R_alloc | apply Kd.R_drewN | apply Kd.R_drew)); exact HO_5.out, HB_⟩
   rw [if_pos c3] at H
   have c3b0 : decide (x6_1 ≤ a0) = true := decide_eq_true c3
   clear c3
   have H' := Aside0.mk H
   clear H
   go_wp2
   repeat (go_quiet (fail); try go_wp2)
   go_loopg [5, 7] k1 (fun kq v5 v7 w' => ∃ (x5_2 : List Int) (x7_2 : Int), v7 = .int .i64 x7_2 ∧ Aside0 (warrantorref08_twice.l1 kq a0 l1 x5_2 x6_1 x7_2 = some r) ∧ Aside0 (kq ≤ k1) ∧ Aside0 (Kd.R (Kd.int .i64) 3 w' w.heap.size (fun _ => True) v5 x5_2) ∧ Aside0 (Below w.heap.size w w'))
   case atStart => exact ⟨(x5_1), (0), (by first | rfl | (simp; done) | (simp [*]; done)), H', ⟨Nat.le_refl _⟩, ⟨by (with_reducible repeat (first | apply Kd.R_alloc | apply Kd.R_drewN | apply Kd.R_drew)); exact HO_5.out⟩, ⟨HB_⟩⟩
   case round =>
     clear H'
     try clear c1
     try clear p2
     try clear c3
     try clear c3b0
     try clear p2
     obtain ⟨x5_2, x7_2, rfl, HA, HK2, HO_5, HB⟩ := hrel
     cases gk with
     | zero => exact absurd HA.out (by simp [warrantorref08_twice.l1])
     | succ k2 =>
      have H := HA.out
      clear HA
      simp only [warrantorref08_twice.l1] at H
      by_cases c4 : x7_2 ≤ a0
      rotate_left
      · rw [if_neg c4] at H
        have c4b0 : decide (x7_2 ≤ a0) = false := decide_eq_false c4
        clear c4
        have H' := Aside0.mk H
        clear H
        go_wp2
        repeat (go_quiet (fail); try go_wp2)
        go_roundg k2
        case measure => have := HK1.out; have := HK2.out; omega
        case rel => exact ⟨(x5_2), (wrap64 (x6_1 + 1)), (by first | rfl | (simp; done) | (simp [*]; done)), H', ⟨by have := HK1.out; have := HK2.out; omega⟩, ⟨by (with_reducible repeat (first | apply Kd.R_alloc | apply Kd.R_drewN | apply Kd.R_drew)); exact HO_5.out⟩, ⟨HB_⟩⟩
      rw [if_pos c4] at H
      have c4b0 : decide (x7_2 ≤ a0) = true := decide_eq_true c4
      clear c4
      obtain ⟨ji5, hji5⟩ : ∃ j_ : Int, (wrap64 ((wrap64 (x6_1 * (wrap64 (a0 + 1)))) + x7_2)) = j_ := ⟨_, rfl⟩
      replace H : (if 0 ≤ (ji5) then (if (ji5) < (l1.length : Int) then (warrantorref08_twice.l2 k2 a0 l1 x5_2 x6_1 x7_2 (rd l1 (ji5)) 0) else (none)) else (none)) = some r := by first | (rw [hji5] at H; exact H) | (simp only [hji5] at H ⊢; exact H)
      have hji5w : (IntKind.i64.wrap ((wrap64 (x6_1 * (wrap64 (a0 + 1)))) + x7_2)) = ji5 := (i64_w _).trans hji5
      have hji5v : (IntKind.i64.wrap ((IntKind.i64.wrap (x6_1 * (IntKind.i64.wrap (a0 + 1)))) + x7_2)) = ji5 := by (try simp only [i64_w]); first | exact hji5 | exact hji5w
      replace H := yes_ H
      obtain ⟨c6, H⟩ := H
      have c6b0 : decide (0 ≤ (ji5)) = true := decide_eq_true c6
      clear c6
      replace H := yes_ H
      obtain ⟨c7, H⟩ := H
      have c7b0 : decide ((ji5) < (l1.length : Int)) = true := decide_eq_true c7
      clear c7
      have H' := Aside0.mk H
      clear H
      have p362 : 0 ≤ ((ji5) : Int) := of_decide_eq_true (by first | (with_reducible assumption) | assumption)
      have q362 : (ji5) < (l1.length : Int) := of_decide_eq_true (by first | (with_reducible assumption) | assumption)
      obtain ⟨ad362, e362, hx362_0⟩ := Kd.at_int HR1.out (ji5) p362 q362
      cases e362
      first | (replace hx362_0 := (HB.out.cell (World.block_lt_of_cell? w _ hx362_0)).trans hx362_0) | skip
      replace p362 := eq_true p362
      replace q362 := eq_true q362
      go_wp2
      repeat (go_quiet (fail); try go_wp2)
      go_loopg [8, 9] k2 (fun kq v8 v9 w' => ∃ (x8_3 : Int) (x9_3 : Int), v8 = .int .i64 x8_3 ∧ v9 = .int .i64 x9_3 ∧ Aside0 (warrantorref08_twice.l2 kq a0 l1 x5_2 x6_1 x7_2 x8_3 x9_3 = some r) ∧ Aside0 (kq ≤ k2) ∧ Aside0 (Kd.R (Kd.int .i64) 3 w' w.heap.size (fun _ => True) u5 x5_2) ∧ Aside0 (Below w.heap.size w w'))
      case atStart => exact ⟨(rd l1 (ji5)), (0), (by first | rfl | (simp; done) | (simp only [← hji5] <;> (first | rfl | simp)) | (simp [*]; done)), (by first | rfl | (simp; done) | (simp [*]; done)), H', ⟨Nat.le_refl _⟩, ⟨by (with_reducible repeat (first | apply Kd.R_alloc | apply Kd.R_drewN | apply Kd.R_drew)); exact HO_5.out⟩, ⟨HB_⟩⟩
      case round =>
        clear H'
        try clear c1
        try clear p2
        try clear c3
        try clear c3b0
        try clear p3
        try clear q3
        try clear hx3
        try clear c4
        try clear c4b0
        try clear c6
        try clear c6b0
        try clear p6
        try clear c7
        try clear c7b0
        try clear hx362_0
        try clear p2
        try clear p362
        try clear q362
        obtain ⟨x8_3, x9_3, rfl, rfl, HA, HK3, HO_5, HB⟩ := hrel
        cases gk with
        | zero => exact absurd HA.out (by simp [warrantorref08_twice.l2])
        | succ k3 =>
         have H := HA.out
         clear HA
         simp only [warrantorref08_twice.l2] at H
         by_cases c8 : x9_3 ≤ a0
         rotate_left
         · rw [if_neg c8] at H
           have c8b0 : decide (x9_3 ≤ a0) = false := decide_eq_false c8
           clear c8
           replace H := yes_ H
           obtain ⟨c16, H⟩ := H
           have LMc16 := Aside0.mk c16
           clear c16
           obtain ⟨y365, hy365⟩ : ∃ y_ : List Int, y_ = (x5_2 ++ [x8_3]) := ⟨_, rfl⟩
           replace H : (warrantorref08_twice.l1 k3 a0 l1 y365 x6_1 (wrap64 (x7_2 + 1))) = some r := by first | (rw [hy365]; with_reducible exact H) | (have H2_ := (Option.bind_some _ _).symm.trans H; rw [hy365]; with_reducible exact H2_) | (have H2_ := (Option.bind_some _ _).symm.trans H; with_reducible exact H2_) | with_reducible exact H | (rw [hy365]; exact H) | exact H
           have Ny365 := Aside0.mk hy365
           clear hy365
           have H' := Aside0.mk H
           clear H
           go_wp2_with (first | ((with_reducible refine gate_builtin (b := .append) (xs := #[.tmp 58, .tmp 60]) rfl ?_); at_builtin; refine Kd.R_append (Kd.int .i64) (w0 := w) w.heap.size rfl (.tmp 58) (.tmp 60) 22 3 (.int .i64 0) 8 rfl Try.underlying22 info3 rfl (by decide) (by omega) u5 x5_2 x8_3 [.int .i64 x8_3] (fun _ => True) (fun _ => False) rfl rfl ?aP (fun _ hk => hk.elim) ?aF ?aO ?aB ?aS ?aL ?_; (case aP => exact rfl); (case aB => exact HB_); (case aF => exact (fun _ _ => trivial)); (case aO => exact (rd_ HO_5.out)); (case aS => exact (below_size HB_)); (case aL => have := LMc16.out; omega); intro v366 w17 ho hb hg hat; rw [← Ny365.out] at ho; have n_ := a_ (Aside0.mk hb) (Aside0.mk ho); clear HB HO_5; obtain ⟨HB, HO367⟩ := n_; clear ho hb hg hat))
           repeat (go_quiet (first | ((with_reducible refine gate_builtin (b := .append) (xs := #[.tmp 58, .tmp 60]) rfl ?_); at_builtin; refine Kd.R_append (Kd.int .i64) (w0 := w) w.heap.size rfl (.tmp 58) (.tmp 60) 22 3 (.int .i64 0) 8 rfl Try.underlying22 info3 rfl (by decide) (by omega) u5 x5_2 x8_3 [.int .i64 x8_3] (fun _ => True) (fun _ => False) rfl rfl ?aP (fun _ hk => hk.elim) ?aF ?aO ?aB ?aS ?aL ?_; (case aP => exact rfl); (case aB => exact HB_); (case aF => exact (fun _ _ => trivial)); (case aO => exact (rd_ HO_5.out)); (case aS => exact (below_size HB_)); (case aL => have := LMc16.out; omega); intro v366 w17 ho hb hg hat; rw [← Ny365.out] at ho; have n_ := a_ (Aside0.mk hb) (Aside0.mk ho); clear HB HO_5; obtain ⟨HB, HO367⟩ := n_; clear ho hb hg hat)); try go_wp2_with (first | ((with_reducible refine gate_builtin (b := .append) (xs := #[.tmp 58, .tmp 60]) rfl ?_); at_builtin; refine Kd.R_append (Kd.int .i64) (w0 := w) w.heap.size rfl (.tmp 58) (.tmp 60) 22 3 (.int .i64 0) 8 rfl Try.underlying22 info3 rfl (by decide) (by omega) u5 x5_2 x8_3 [.int .i64 x8_3] (fun _ => True) (fun _ => False) rfl rfl ?aP (fun _ hk => hk.elim) ?aF ?aO ?aB ?aS ?aL ?_; (case aP => exact rfl); (case aB => exact HB_); (case aF => exact (fun _ _ => trivial)); (case aO => exact (rd_ HO_5.out)); (case aS => exact (below_size HB_)); (case aL => have := LMc16.out; omega); intro v366 w17 ho hb hg hat; rw [← Ny365.out] at ho; have n_ := a_ (Aside0.mk hb) (Aside0.mk ho); clear HB HO_5; obtain ⟨HB, HO367⟩ := n_; clear ho hb hg hat)))
           go_roundg k3
           case measure => have := HK1.out; have := HK2.out; have := HK3.out; omega
           case rel => exact ⟨(y365), (wrap64 (x7_2 + 1)), (by first | rfl | (simp; done) | (simp [*]; done)), H', ⟨by have := HK1.out; have := HK2.out; have := HK3.out; omega⟩, ⟨by (with_reducible repeat (first | apply Kd.R_alloc | apply Kd.R_drewN | apply Kd.R_drew)); exact HO367.out⟩, ⟨HB_⟩⟩
         rw [if_pos c8] at H
         have c8b0 : decide (x9_3 ≤ a0) = true := decide_eq_true c8
         clear c8
         obtain ⟨ji9, hji9⟩ : ∃ j_ : Int, (wrap64 ((wrap64 (x6_1 * (wrap64 (a0 + 1)))) + x9_3)) = j_ := ⟨_, rfl⟩
         replace H : (if 0 ≤ (ji9) then (if (ji9) < (l1.length : Int) then (if 0 ≤ (wrap64 ((wrap64 (x9_3 * (wrap64 (a0 + 1)))) + x7_2)) then (if (wrap64 ((wrap64 (x9_3 * (wrap64 (a0 + 1)))) + x7_2)) < (l1.length : Int) then (if (wrap64 ((rd l1 (ji9)) + (rd l1 (wrap64 ((wrap64 (x9_3 * (wrap64 (a0 + 1)))) + x7_2))))) < x8_3 then (warrantorref08_twice.l2 k3 a0 l1 x5_2 x6_1 x7_2 (wrap64 ((rd l1 (ji9)) + (rd l1 (wrap64 ((wrap64 (x9_3 * (wrap64 (a0 + 1)))) + x7_2))))) (wrap64 (x9_3 + 1))) else (warrantorref08_twice.l2 k3 a0 l1 x5_2 x6_1 x7_2 x8_3 (wrap64 (x9_3 + 1)))) else (none)) else (none)) else (none)) else (none)) = some r := by first | (rw [hji9] at H; exact H) | (simp only [hji9] at H ⊢; exact H)
         have hji9w : (IntKind.i64.wrap ((wrap64 (x6_1 * (wrap64 (a0 + 1)))) + x9_3)) = ji9 := (i64_w _).trans hji9
         have hji9v : (IntKind.i64.wrap ((IntKind.i64.wrap (x6_1 * (IntKind.i64.wrap (a0 + 1)))) + x9_3)) = ji9 := by (try simp only [i64_w]); first | exact hji9 | exact hji9w
         replace H := yes_ H
         obtain ⟨c10, H⟩ := H
         have c10b0 : decide (0 ≤ (ji9)) = true := decide_eq_true c10
         clear c10
         replace H := yes_ H
         obtain ⟨c11, H⟩ := H
         have c11b0 : decide ((ji9) < (l1.length : Int)) = true := decide_eq_true c11
         clear c11
         obtain ⟨ji12, hji12⟩ : ∃ j_ : Int, (wrap64 ((wrap64 (x9_3 * (wrap64 (a0 + 1)))) + x7_2)) = j_ := ⟨_, rfl⟩
         replace H : (if 0 ≤ (ji12) then (if (ji12) < (l1.length : Int) then (if (wrap64 ((rd l1 (ji9)) + (rd l1 (ji12)))) < x8_3 then (warrantorref08_twice.l2 k3 a0 l1 x5_2 x6_1 x7_2 (wrap64 ((rd l1 (ji9)) + (rd l1 (ji12)))) (wrap64 (x9_3 + 1))) else (warrantorref08_twice.l2 k3 a0 l1 x5_2 x6_1 x7_2 x8_3 (wrap64 (x9_3 + 1)))) else (none)) else (none)) = some r := by first | (rw [hji12] at H; exact H) | (simp only [hji12] at H ⊢; exact H)
         have hji12w : (IntKind.i64.wrap ((wrap64 (x9_3 * (wrap64 (a0 + 1)))) + x7_2)) = ji12 := (i64_w _).trans hji12
         have hji12v : (IntKind.i64.wrap ((IntKind.i64.wrap (x9_3 * (IntKind.i64.wrap (a0 + 1)))) + x7_2)) = ji12 := by (try simp only [i64_w]); first | exact hji12 | exact hji12w
         replace H := yes_ H
         obtain ⟨c13, H⟩ := H
         have c13b0 : decide (0 ≤ (ji12)) = true := decide_eq_true c13
         clear c13
         replace H := yes_ H
         obtain ⟨c14, H⟩ := H
         have c14b0 : decide ((ji12) < (l1.length : Int)) = true := decide_eq_true c14
         clear c14
         by_cases c15 : (wrap64 ((rd l1 (ji9)) + (rd l1 (ji12)))) < x8_3
         rotate_left
         · rw [if_neg c15] at H
           have c15b0 : decide ((wrap64 ((rd l1 (ji9)) + (rd l1 (ji12)))) < x8_3) = false := decide_eq_false c15
           have c15b0v : decide ((IntKind.i64.wrap ((rd l1 (ji9)) + (rd l1 (ji12)))) < x8_3) = false := by (try simp only [i64_w]); exact c15b0
           clear c15
           have H' := Aside0.mk H
           clear H
           have p363 : 0 ≤ ((ji9) : Int) := of_decide_eq_true (by first | (with_reducible assumption) | assumption)
           have q363 : (ji9) < (l1.length : Int) := of_decide_eq_true (by first | (with_reducible assumption) | assumption)
           obtain ⟨ad363, e363, hx363_0⟩ := Kd.at_int HR1.out (ji9) p363 q363
           obtain rfl : ad362 = ad363 := (by injection e363)
           first | (replace hx363_0 := (HB.out.cell (World.block_lt_of_cell? w _ hx363_0)).trans hx363_0) | skip
           replace p363 := eq_true p363
           replace q363 := eq_true q363
           have p364 : 0 ≤ ((ji12) : Int) := of_decide_eq_true (by first | (with_reducible assumption) | assumption)
           have q364 : (ji12) < (l1.length : Int) := of_decide_eq_true (by first | (with_reducible assumption) | assumption)
           obtain ⟨ad364, e364, hx364_0⟩ := Kd.at_int HR1.out (ji12) p364 q364
           obtain rfl : ad362 = ad364 := (by injection e364)
           first | (replace hx364_0 := (HB.out.cell (World.block_lt_of_cell? w _ hx364_0)).trans hx364_0) | skip
           replace p364 := eq_true p364
           replace q364 := eq_true q364
           go_wp2
           repeat (go_quiet (fail); try go_wp2)
           go_roundg k3
           case measure => have := HK1.out; have := HK2.out; have := HK3.out; omega
           case rel => exact ⟨(x8_3), (wrap64 (x9_3 + 1)), (by first | rfl | (simp; done) | (simp [*]; done)), (by first | rfl | (simp; done) | (simp [*]; done)), H', ⟨by have := HK1.out; have := HK2.out; have := HK3.out; omega⟩, ⟨by (with_reducible repeat (first | apply Kd.R_alloc | apply Kd.R_drewN | apply Kd.R_drew)); exact HO_5.out⟩, ⟨HB_⟩⟩
         rw [if_pos c15] at H
         have c15b0 : decide ((wrap64 ((rd l1 (ji9)) + (rd l1 (ji12)))) < x8_3) = true := decide_eq_true c15
         have c15b0v : decide ((IntKind.i64.wrap ((rd l1 (ji9)) + (rd l1 (ji12)))) < x8_3) = true := by (try simp only [i64_w]); exact c15b0
         clear c15
         have H' := Aside0.mk H
         clear H
         have p363 : 0 ≤ ((ji9) : Int) := of_decide_eq_true (by first | (with_reducible assumption) | assumption)
         have q363 : (ji9) < (l1.length : Int) := of_decide_eq_true (by first | (with_reducible assumption) | assumption)
         obtain ⟨ad363, e363, hx363_0⟩ := Kd.at_int HR1.out (ji9) p363 q363
         obtain rfl : ad362 = ad363 := (by injection e363)
         first | (replace hx363_0 := (HB.out.cell (World.block_lt_of_cell? w _ hx363_0)).trans hx363_0) | skip
         replace p363 := eq_true p363
         replace q363 := eq_true q363
         have p364 : 0 ≤ ((ji12) : Int) := of_decide_eq_true (by first | (with_reducible assumption) | assumption)
         have q364 : (ji12) < (l1.length : Int) := of_decide_eq_true (by first | (with_reducible assumption) | assumption)
         obtain ⟨ad364, e364, hx364_0⟩ := Kd.at_int HR1.out (ji12) p364 q364
         obtain rfl : ad362 = ad364 := (by injection e364)
         first | (replace hx364_0 := (HB.out.cell (World.block_lt_of_cell? w _ hx364_0)).trans hx364_0) | skip
         replace p364 := eq_true p364
         replace q364 := eq_true q364
         go_wp2
         repeat (go_quiet (fail); try go_wp2)
         go_roundg k3
         case measure => have := HK1.out; have := HK2.out; have := HK3.out; omega
         case rel => exact ⟨(wrap64 ((rd l1 (ji9)) + (rd l1 (ji12)))), (wrap64 (x9_3 + 1)), (by first | rfl | (simp; done) | (simp only [← hji9, ← hji12] <;> (first | rfl | simp)) | (simp [*]; done)), (by first | rfl | (simp; done) | (simp [*]; done)), H', ⟨by have := HK1.out; have := HK2.out; have := HK3.out; omega⟩, ⟨by (with_reducible repeat (first | apply Kd.R_alloc | apply Kd.R_drewN | apply Kd.R_drew)); exact HO_5.out⟩, ⟨HB_⟩⟩
mutual
def warrantorref08_Close.l0 : Nat → Int → List Int → Int → Option (Int × List Int)
 | 0, _, _, _ => none
 | k + 1, x0, x5, x6 => if x6 < 4 then ((warrantorref08_twice.f k x0 x5).bind fun t372 => (warrantorref08_Close.l0 k x0 t372 (wrap64 (x6 + 1)))) else (warrantorref08_Close.l1 k x0 x5 0)
def warrantorref08_Close.l1 : Nat → Int → List Int → Int → Option (Int × List Int)
 | 0, _, _, _ => none
 | k + 1, x0, x5, x7 => if x7 ≤ x0 then (if 0 ≤ (wrap64 ((wrap64 (x7 * (wrap64 (x0 + 1)))) + x7)) then (if (wrap64 ((wrap64 (x7 * (wrap64 (x0 + 1)))) + x7)) < (x5.length : Int) then (if (rd x5 (wrap64 ((wrap64 (x7 * (wrap64 (x0 + 1)))) + x7))) < 0 then (some (x0, ([] : List Int))) else (warrantorref08_Close.l1 k x0 x5 (wrap64 (x7 + 1)))) else (none)) else (none)) else (some (x0, x5))
end
def warrantorref08_Close.f (k : Nat) (a0 : Int) (l1 : List Int) : Option (Int × List Int) := (warrantorref08_clip.f k a0 l1).bind fun t369 => (warrantorref08_Close.l0 k a0 t369 0)
theorem warrantorref08_Close.mono_l : ∀ k, (∀ y0 y1 y2, LeO (warrantorref08_Close.l0 k y0 y1 y2) (warrantorref08_Close.l0 (k + 1) y0 y1 y2)) ∧ (∀ y0 y1 y2, LeO (warrantorref08_Close.l1 k y0 y1 y2) (warrantorref08_Close.l1 (k + 1) y0 y1 y2))
 | 0 => ⟨fun _ _ _ r h => by simp [warrantorref08_Close.l0] at h, fun _ _ _ r h => by simp [warrantorref08_Close.l1] at h⟩
 | k + 1 => by
  obtain ⟨ih0, ih1⟩ := warrantorref08_Close.mono_l k
  refine ⟨?_, ?_⟩
  · intro y0 y1 y2
    unfold warrantorref08_Close.l0
    repeat' first
    | (with_reducible exact ih0 _ _ _)
    | (with_reducible exact ih1 _ _ _)
    | (with_reducible exact warrantorref08_clip.mono _ _ _)
    | (with_reducible exact warrantorref08_twice.mono _ _ _)
    | (with_reducible exact LeO.refl _)
    | (with_reducible exact LeO.none _)
    | (with_reducible refine LeO.ite ?_ ?_)
    | (with_reducible refine LeO.bind ?_ (fun _ => ?_))
    | exact ih0 _ _ _
    | exact ih1 _ _ _
    | exact warrantorref08_clip.mono _ _ _
    | exact warrantorref08_twice.mono _ _ _
    | exact LeO.none _
    | refine LeO.ite ?_ ?_
    | refine LeO.bind ?_ (fun _ => ?_)
  · intro y0 y1 y2
    unfold warrantorref08_Close.l1
    repeat' first
    | (with_reducible exact ih0 _ _ _)
    | (with_reducible exact ih1 _ _ _)
    | (with_reducible exact warrantorref08_clip.mono _ _ _)
    | (with_reducible exact warrantorref08_twice.mono _ _ _)
    | (with_reducible exact LeO.refl _)
    | (with_reducible exact LeO.none _)
    | (with_reducible refine LeO.ite ?_ ?_)
    | (with_reducible refine LeO.bind ?_ (fun _ => ?_))
    | exact ih0 _ _ _
    | exact ih1 _ _ _
    | exact warrantorref08_clip.mono _ _ _
    | exact warrantorref08_twice.mono _ _ _
    | exact LeO.none _
    | refine LeO.ite ?_ ?_
    | refine LeO.bind ?_ (fun _ => ?_)
theorem warrantorref08_Close.mono : ∀ a0 a1 k, LeO (warrantorref08_Close.f k a0 a1) (warrantorref08_Close.f (k + 1) a0 a1) := by
 intro a0 a1 k
 obtain ⟨ih0, ih1⟩ := warrantorref08_Close.mono_l k
 unfold warrantorref08_Close.f
 repeat' first
  | (with_reducible exact ih0 _ _ _)
  | (with_reducible exact ih1 _ _ _)
  | (with_reducible exact warrantorref08_clip.mono _ _ _)
  | (with_reducible exact warrantorref08_twice.mono _ _ _)
  | (with_reducible exact LeO.refl _)
  | (with_reducible exact LeO.none _)
  | (with_reducible refine LeO.ite ?_ ?_)
  | (with_reducible refine LeO.bind ?_ (fun _ => ?_))
  | exact ih0 _ _ _
  | exact ih1 _ _ _
  | exact warrantorref08_clip.mono _ _ _
  | exact warrantorref08_twice.mono _ _ _
  | exact LeO.none _
  | refine LeO.ite ?_ ?_
  | refine LeO.bind ?_ (fun _ => ?_)
set_option maxHeartbeats 8000000 in
set_option maxRecDepth 100000 in
theorem warrantorref08_Close.calls (k : Nat) (a0 : Int) (A1 : Option Addr) (c1 : Nat) (l1 : List Int) (r1 : Int) (r2 : List Int) (w : World) (hr1 : Kd.C (Kd.int .i64) w A1 l1.length l1) (hc1 : l1.length ≤ c1) (h : warrantorref08_Close.f k a0 l1 = some (r1, r2)) :
  Calls Try.prog 76 #[.int .i64 a0, .slice A1 l1.length c1] w fun e w' => ∃ v1_ : Value, e = .returned (.agg #[.int .i64 r1, v1_]) ∧ Kd.R (Kd.int .i64) 3 w' w.heap.size (fun _ => True) v1_ r2 ∧ Below w.heap.size w w' := by
 have hu24 := Try.underlying24
 have HR1 := Aside0.mk hr1
 have HC1 := Aside0.mk hc1
 clear hr1 hc1
 have HB := Aside0.mk (Below.refl w.heap.size w)
 have H : ((warrantorref08_clip.f k a0 l1).bind fun t369 => (warrantorref08_Close.l0 k a0 t369 0)) = some (r1, r2) := h
 clear h
 replace H := Option.bind_eq_some_iff.mp H
 obtain ⟨t369, A30, H⟩ := H
 replace H : (warrantorref08_Close.l0 k a0 t369 0) = some (r1, r2) := H
 have A3 := Aside0.mk A30
 clear A30
 have H' := Aside0.mk H
 clear H
 go_enter Try.func76, Try.ntmps76
 go_wp2_with (first | ((with_reducible refine gate_dst (N := 4) rfl ?_); refine bx_ (N := 4) (cs := #[.int .i64 0, .slice none 0 0]) (t := 24) ?_; intro gb368 hg w4 hbox hb; have n_ := a_ (bs_ HB hb) (a_ (Aside0.mk hbox) (a_ (gs_ HB hg) (gs_ HB hg))); clear HB; obtain ⟨HB, BK368, GW368, GE368⟩ := n_; clear hb hbox hg) | ((with_reducible refine gate_callee (f := 100) rfl ?_); refine goesL_ (some 10) rfl rfl Try.func100 (by kernel_rfl) rfl #[.int .i64 a0, .slice A1 l1.length c1] rfl MP_ ?_; (with_reducible refine (warrantorref08_clip.calls k a0 _ _ l1 t369 _ ?side1 ?side2 A3.out).mono ?_); (case side1 => exact sd_ (Kd.C_below HR1.out HB.out)); (case side2 => exact HC1.out); rintro e w5 ⟨v370, rfl, ho0, hb⟩; refine ⟨_, rfl, ?_⟩; have n_ := a_ (Aside0.mk (Kd.R_lower ho0 (below_size HB_))) (a_ (bb_ BK368 hb) (bs_ HB hb)); clear BK368 HB; obtain ⟨HO371, BK368, HB⟩ := n_; (try clear hb); (try clear hb2); (try clear hk); (try clear hi); (try clear ho0)))
 go_loopg [5, 6] k (fun kq v5 v6 w' => ∃ (x5_1 : List Int) (x6_1 : Int), v6 = .int .i64 x6_1 ∧ Aside0 (warrantorref08_Close.l0 kq a0 x5_1 x6_1 = some (r1, r2)) ∧ Aside0 (kq ≤ k) ∧ Aside0 (Kd.R (Kd.int .i64) 3 w' w.heap.size (fun _ => True) v5 x5_1) ∧ Aside0 (w'.heap[gb368]? = some (.cells #[.int .i64 0, (.slice none 0 0)] 24 (0, 0))) ∧ Aside0 (Below w.heap.size w w'))
 case atStart => exact ⟨(t369), (0), (by first | rfl | (simp; done) | (simp [*]; done)), H', ⟨Nat.le_refl _⟩, ⟨by (with_reducible repeat (first | apply Kd.R_alloc | apply Kd.R_drewN | apply Kd.R_drew)); exact HO371.out⟩, ⟨by (with_reducible repeat (first | refine blk_drewN ?_ _ | refine blk_drew ?_ | refine blk_alloc ?_ _)); exact BK368.out⟩, ⟨HB_⟩⟩
 case round =>
  clear H'
  try clear c1
  try clear p2
  obtain ⟨x5_1, x6_1, rfl, HA, HK1, HO_5, BK368, HB⟩ := hrel
  cases gk with
  | zero => exact absurd HA.out (by simp [warrantorref08_Close.l0])
  | succ k1 =>
   have H := HA.out
   clear HA
   simp only [warrantorref08_Close.l0] at H
   by_cases c6 : x6_1 < 4
   · rw [if_pos c6] at H
     have c6b0 : decide (x6_1 < 4) = true := decide_eq_true c6
     clear c6
     replace H := Option.bind_eq_some_iff.mp H
     obtain ⟨t372, A70, H⟩ := H
     replace H : (warrantorref08_Close.l0 k1 a0 t372 (wrap64 (x6_1 + 1))) = some (r1, r2) := H
     have A7 := Aside0.mk A70
     clear A70
     have H' := Aside0.mk H
     clear H
     obtain ⟨Ao8, co8, eo8⟩ := Kd.R_slice HO_5.out
     subst eo8
     go_wp2_with (first | ((with_reducible refine gate_callee (f := 101) rfl ?_); refine goesL_ (some 17) rfl rfl Try.func101 (by kernel_rfl) rfl #[.int .i64 a0, .slice Ao8 x5_1.length co8] rfl MP_ ?_; (with_reducible refine (warrantorref08_twice.calls k1 a0 _ _ x5_1 t372 _ ?side1 ?side2 A7.out).mono ?_); (case side1 => repeat (first | exact (Kd.R_reads' HO_5.out).2.2 | (with_reducible refine Kd.C_alloc ?_ _) | (with_reducible refine Kd.C_drewN ?_ _) | (with_reducible refine Kd.C_drew ?_))); (case side2 => exact (Kd.R_reads' HO_5.out).2.1); rintro e w9 ⟨v373, rfl, ho0, hb⟩; refine ⟨_, rfl, ?_⟩; have n_ := a_ (Aside0.mk (Kd.R_elder' (rd_ HO_5.out) (Kd.R_base ho0) hb)) (a_ (Aside0.mk (Kd.R_lower (Kd.R_new' ho0 (Kd.R_lt (rd_ HO_5.out))) (below_size HB_))) (a_ (bb_ BK368 hb) (bs_ HB hb))); clear HO_5 BK368 HB; obtain ⟨HO_5, HO374, BK368, HB⟩ := n_; (try clear hb); (try clear hb2); (try clear hk); (try clear hi); (try clear ho0)))
     go_roundg k1
     case measure => have := HK1.out; omega
     case rel => exact ⟨(t372), (wrap64 (x6_1 + 1)), (by first | rfl | (simp; done) | (simp [*]; done)), H', ⟨by have := HK1.out; omega⟩, ⟨by (with_reducible repeat (first | apply Kd.R_alloc | apply Kd.R_drewN | apply Kd.R_drew)); exact Kd.R_mono HO374.out (fun _ hk => trivial)⟩, ⟨by (with_reducible repeat (first | refine blk_drewN ?_ _ | refine blk_drew ?_ | refine blk_alloc ?_ _)); exact BK368.out⟩, ⟨HB_⟩⟩
   rw [if_neg c6] at H
   have c6b0 : decide (x6_1 < 4) = false := decide_eq_false c6
   clear c6
   have H' := Aside0.mk H
   clear H
   go_wp2
   go_loopg [7] k1 (fun kq v7 w' => ∃ (x7_2 : Int) (x369000_2 : Int), v7 = .int .i64 x7_2 ∧ Aside0 (warrantorref08_Close.l1 kq a0 x5_1 x7_2 = some (r1, r2)) ∧ Aside0 (kq ≤ k1) ∧ Aside0 (Kd.R (Kd.int .i64) 3 w' w.heap.size (fun _ => True) u5 x5_1) ∧ Aside0 (w'.heap[gb368]? = some (.cells #[.int .i64 x369000_2, (.slice none 0 0)] 24 (0, 0))) ∧ Aside0 (Below w.heap.size w w'))
   case atStart => exact ⟨(0), (0), (by first | rfl | (simp; done) | (simp [*]; done)), H', ⟨Nat.le_refl _⟩, ⟨by (with_reducible repeat (first | apply Kd.R_alloc | apply Kd.R_drewN | apply Kd.R_drew)); exact HO_5.out⟩, ⟨by (with_reducible repeat (first | refine blk_drewN ?_ _ | refine blk_drew ?_ | refine blk_alloc ?_ _)); exact BK368.out⟩, ⟨HB_⟩⟩
   case round =>
     clear H'
     try clear c1
     try clear p2
     try clear c6
     try clear c6b0
     try clear p6
     try clear c7
     try clear p2
     obtain ⟨x7_2, x369000_2, rfl, HA, HK2, HO_5, BK368, HB⟩ := hrel
     cases gk with
     | zero => exact absurd HA.out (by simp [warrantorref08_Close.l1])
     | succ k2 =>
      have H := HA.out
      clear HA
      simp only [warrantorref08_Close.l1] at H
      by_cases c10 : x7_2 ≤ a0
      rotate_left
      · rw [if_neg c10] at H
        have c10b0 : decide (x7_2 ≤ a0) = false := decide_eq_false c10
        clear c10
        simp only [Option.some.injEq, Prod.mk.injEq] at H
        obtain ⟨rfl, rfl⟩ := H
        obtain ⟨Ao18, co18, eo18⟩ := Kd.R_slice HO_5.out
        subst eo18
        obtain ⟨hcz19_0, hcz19_1, hfz19_0, hfz19_1⟩ := cz2_ BK368
        go_wp2
        refine bodyPost_ret (results_cell_row rfl _ _ gb368 24 #[.int .i64 a0, .slice Ao18 x5_1.length co18] (0, 0) _ rfl (bk2_ BK368.out) Try.underlying24 rfl (by kernel_rfl)) rfl ?_
        exact ⟨_, by first | rfl | (simp [errW_none, errW_some] <;> rfl) | (simp [*, errW_none, errW_some] <;> rfl), by (with_reducible repeat (first | apply Kd.R_alloc | apply Kd.R_drewN | apply Kd.R_drew)); exact Kd.R_mono (Kd.R_far (p := ⟨gb368, 1, none⟩) (Kd.R_far (p := ⟨gb368, 0, none⟩) (Kd.R_types HO_5.out BK368.out (by decide)) (fun _ hk => hk.2) (.int .i64 a0)) (fun _ hk => hk.2) (.slice Ao18 x5_1.length co18)) (fun _ hk => trivial), HB_⟩
      rw [if_pos c10] at H
      have c10b0 : decide (x7_2 ≤ a0) = true := decide_eq_true c10
      clear c10
      obtain ⟨ji11, hji11⟩ : ∃ j_ : Int, (wrap64 ((wrap64 (x7_2 * (wrap64 (a0 + 1)))) + x7_2)) = j_ := ⟨_, rfl⟩
      replace H : (if 0 ≤ (ji11) then (if (ji11) < (x5_1.length : Int) then (if (rd x5_1 (ji11)) < 0 then (some (a0, ([] : List Int))) else (warrantorref08_Close.l1 k2 a0 x5_1 (wrap64 (x7_2 + 1)))) else (none)) else (none)) = some (r1, r2) := by first | (rw [hji11] at H; exact H) | (simp only [hji11] at H ⊢; exact H)
      have hji11w : (IntKind.i64.wrap ((wrap64 (x7_2 * (wrap64 (a0 + 1)))) + x7_2)) = ji11 := (i64_w _).trans hji11
      have hji11v : (IntKind.i64.wrap ((IntKind.i64.wrap (x7_2 * (IntKind.i64.wrap (a0 + 1)))) + x7_2)) = ji11 := by (try simp only [i64_w]); first | exact hji11 | exact hji11w
      replace H := yes_ H
      obtain ⟨c12, H⟩ := H
      have c12b0 : decide (0 ≤ (ji11)) = true := decide_eq_true c12
      clear c12
      replace H := yes_ H
      obtain ⟨c13, H⟩ := H
      have c13b0 : decide ((ji11) < (x5_1.length : Int)) = true := decide_eq_true c13
      clear c13
      by_cases c14 : (rd x5_1 (ji11)) < 0
      rotate_left
      · rw [if_neg c14] at H
        have c14b0 : decide ((rd x5_1 (ji11)) < 0) = false := decide_eq_false c14
        clear c14
        have H' := Aside0.mk H
        clear H
        obtain ⟨Ao17, co17, eo17⟩ := Kd.R_slice HO_5.out
        subst eo17
        have p375 : 0 ≤ ((ji11) : Int) := of_decide_eq_true (by first | (with_reducible assumption) | assumption)
        have q375 : (ji11) < (x5_1.length : Int) := of_decide_eq_true (by first | (with_reducible assumption) | assumption)
        obtain ⟨ad375, e375, hx375_0⟩ := Kd.at_int (Kd.R_reads' HO_5.out).2.2 (ji11) p375 q375
        cases e375
        replace p375 := eq_true p375
        replace q375 := eq_true q375
        go_wp2
        go_roundg k2
        case measure => have := HK1.out; have := HK2.out; omega
        case rel => exact ⟨(wrap64 (x7_2 + 1)), (x369000_2), (by first | rfl | (simp; done) | (simp [*]; done)), H', ⟨by have := HK1.out; have := HK2.out; omega⟩, ⟨by (with_reducible repeat (first | apply Kd.R_alloc | apply Kd.R_drewN | apply Kd.R_drew)); exact HO_5.out⟩, ⟨by (with_reducible repeat (first | refine blk_drewN ?_ _ | refine blk_drew ?_ | refine blk_alloc ?_ _)); exact BK368.out⟩, ⟨HB_⟩⟩
      rw [if_pos c14] at H
      have c14b0 : decide ((rd x5_1 (ji11)) < 0) = true := decide_eq_true c14
      clear c14
      simp only [Option.some.injEq, Prod.mk.injEq] at H
      obtain ⟨rfl, rfl⟩ := H
      obtain ⟨Ao15, co15, eo15⟩ := Kd.R_slice HO_5.out
      subst eo15
      have p375 : 0 ≤ ((ji11) : Int) := of_decide_eq_true (by first | (with_reducible assumption) | assumption)
      have q375 : (ji11) < (x5_1.length : Int) := of_decide_eq_true (by first | (with_reducible assumption) | assumption)
      obtain ⟨ad375, e375, hx375_0⟩ := Kd.at_int (Kd.R_reads' HO_5.out).2.2 (ji11) p375 q375
      cases e375
      replace p375 := eq_true p375
      replace q375 := eq_true q375
      obtain ⟨hcz16_0, hcz16_1, hfz16_0, hfz16_1⟩ := cz2_ BK368
      go_wp2
      refine bodyPost_ret (results_cell_row rfl _ _ gb368 24 #[.int .i64 a0, .slice none 0 0] (0, 0) _ rfl (bk2_ BK368.out) Try.underlying24 rfl (by kernel_rfl)) rfl ?_
      exact ⟨_, by first | rfl | (simp [errW_none, errW_some] <;> rfl) | (simp only [← hji11]; first | rfl | (simp [errW_none, errW_some] <;> rfl)) | (simp [*, errW_none, errW_some] <;> rfl), by first | exact Kd.R_nil _ _ _ _ _ | exact Kd.N_nil _ _ _ _ _ | exact Kd.V_nil _ _ _ _ _ | exact Kd.Q_nil _ _ _ _ _ | exact Kd.S_nil _ _ _ _ _, HB_⟩
def warrantorref09_Limit.f (k : Nat) (a0_0 : Int) (l0_1 : List Int) (a1 : Int) (a2 : Int) (a3 : Int) : Option (Int × List Int) := if (l0_1.length : Int) = 0 then (some (a0_0, l0_1)) else ((some (([] : List Int) : List Int)).bind fun y378 => (if y378.length + l0_1.length < 17592186044416 then ((some (y378 ++ l0_1 : List Int)).bind fun y381 => (if 0 ≤ (wrap64 ((wrap64 (a1 * (wrap64 (a0_0 + 1)))) + a2)) then (if (wrap64 ((wrap64 (a1 * (wrap64 (a0_0 + 1)))) + a2)) < (y381.length : Int) then (if a3 < (rd y381 (wrap64 ((wrap64 (a1 * (wrap64 (a0_0 + 1)))) + a2))) then ((warrantorref08_Close.f k a0_0 (y381.set ((wrap64 ((wrap64 (a1 * (wrap64 (a0_0 + 1)))) + a2)) : Int).toNat a3)).bind fun bt386 => (some (bt386.1, bt386.2))) else ((warrantorref08_Close.f k a0_0 y381).bind fun bt390 => (some (bt390.1, bt390.2)))) else (none)) else (none))) else (none)))
theorem warrantorref09_Limit.mono : ∀ a0 a1 a2 a3 a4 k, LeO (warrantorref09_Limit.f k a0 a1 a2 a3 a4) (warrantorref09_Limit.f (k + 1) a0 a1 a2 a3 a4) := by
 intro a0 a1 a2 a3 a4 k
 unfold warrantorref09_Limit.f
 repeat' first
  | (with_reducible exact warrantorref08_Close.mono _ _ _)
  | (with_reducible exact LeO.refl _)
  | (with_reducible exact LeO.none _)
  | (with_reducible refine LeO.ite ?_ ?_)
  | (with_reducible refine LeO.bind ?_ (fun _ => ?_))
  | exact warrantorref08_Close.mono _ _ _
  | exact LeO.none _
  | refine LeO.ite ?_ ?_
  | refine LeO.bind ?_ (fun _ => ?_)
set_option maxHeartbeats 8000000 in
set_option maxRecDepth 100000 in
theorem warrantorref09_Limit.calls (k : Nat) (a0_0 : Int) (P0_1_ : Nat → Prop) (A0_1 : Option Addr) (c0_1 : Nat) (l0_1 : List Int) (a1 : Int) (a2 : Int) (a3 : Int) (r1 : Int) (r2 : List Int) (w : World) (hs0_1 : Kd.V (Kd.int .i64) 3 w w.heap.size (fun k_ => P0_1_ k_) (.slice A0_1 l0_1.length c0_1) l0_1) (h : warrantorref09_Limit.f k a0_0 l0_1 a1 a2 a3 = some (r1, r2)) :
   Calls Try.prog 32 #[.agg #[.int .i64 a0_0, .slice A0_1 l0_1.length c0_1], .int .i64 a1, .int .i64 a2, .int .i64 a3] w fun e w' => ∃ v1_ : Value, e = .returned (.agg #[.int .i64 r1, v1_]) ∧ Kd.V (Kd.int .i64) 3 w' w.heap.size (fun k_ => (P0_1_ k_ ∨ w.heap.size ≤ k_)) v1_ r2 ∧ Below w.heap.size w w' := by
 have hu24 := Try.underlying24
 have HO0_1 := Aside0.mk (show Kd.V (Kd.int .i64) 3 w w.heap.size (fun k_ => (P0_1_ k_ ∨ w.heap.size ≤ k_)) (.slice A0_1 l0_1.length c0_1) l0_1 from Kd.V_mono hs0_1 (fun k_ hk => .inl hk))
 have HB := Aside0.mk (Below.refl w.heap.size w)
 have H : (if (l0_1.length : Int) = 0 then (some (a0_0, l0_1)) else ((some (([] : List Int) : List Int)).bind fun y378 => (if y378.length + l0_1.length < 17592186044416 then ((some (y378 ++ l0_1 : List Int)).bind fun y381 => (if 0 ≤ (wrap64 ((wrap64 (a1 * (wrap64 (a0_0 + 1)))) + a2)) then (if (wrap64 ((wrap64 (a1 * (wrap64 (a0_0 + 1)))) + a2)) < (y381.length : Int) then (if a3 < (rd y381 (wrap64 ((wrap64 (a1 * (wrap64 (a0_0 + 1)))) + a2))) then ((warrantorref08_Close.f k a0_0 (y381.set ((wrap64 ((wrap64 (a1 * (wrap64 (a0_0 + 1)))) + a2)) : Int).toNat a3)).bind fun bt386 => (some (bt386.1, bt386.2))) else ((warrantorref08_Close.f k a0_0 y381).bind fun bt390 => (some (bt390.1, bt390.2)))) else (none)) else (none))) else (none)))) = some (r1, r2) := h
 clear h
 by_cases c5 : (l0_1.length : Int) = 0
 · rw [if_pos c5] at H
   have c5b0 : ((l0_1.length : Int) == 0) = true := beq_iff_eq.mpr c5
   have c5b1 : ((l0_1.length : Int) != 0) = false := bne_eq_false_iff_eq.mpr c5
   clear c5
   simp only [Option.some.injEq, Prod.mk.injEq] at H
   obtain ⟨rfl, rfl⟩ := H
   go_enter Try.func32, Try.ntmps32
   go_wp2_with (first | ((with_reducible refine gate_dst (N := 4) rfl ?_); refine bx_ (N := 4) (cs := #[.int .i64 a0_0, .slice A0_1 l0_1.length c0_1]) (t := 24) ?_; intro gb376 hg w6 hbox hb; have n_ := a_ (Aside0.mk (Kd.V_below (Kd.V_elderB (by (with_reducible repeat (first | apply Kd.V_alloc | apply Kd.V_drewN | apply Kd.V_drew)); exact HO0_1.out) gb376 (Nat.le_of_eq hg.symm)) hb)) (a_ (bs_ HB hb) (a_ (Aside0.mk hbox) (a_ (gs_ HB hg) (gs_ HB hg)))); clear HO0_1 HB; obtain ⟨HO0_1, HB, BK376, GW376, GE376⟩ := n_; clear hb hbox hg) | ((with_reducible refine gate_dst (N := 8) rfl ?_); refine bx_ (N := 8) (cs := #[.int .i64 0, .slice none 0 0]) (t := 24) ?_; intro gb377 hg w7 hbox hb; have n_ := a_ (Aside0.mk (Kd.V_below (Kd.V_elderB (by (with_reducible repeat (first | apply Kd.V_alloc | apply Kd.V_drewN | apply Kd.V_drew)); exact HO0_1.out) gb377 (Nat.le_of_eq hg.symm)) hb)) (a_ (bb_ BK376 hb) (a_ (bs_ HB hb) (a_ (Aside0.mk hbox) (a_ (gs_ HB hg) (a_ (gs_ HB hg) (a_ (nl_ BK376 hg) (ng_ BK376 hg))))))); clear HO0_1 BK376 HB; obtain ⟨HO0_1, BK376, HB, BK377, GW377, GE377, NB376_377, NB377_376⟩ := n_; clear hb hbox hg; have hnb8 := NB376_377.out; have hnc8 := NB377_376.out; obtain ⟨hcz9_0, hcz9_1, hfz9_0, hfz9_1⟩ := cz2_ BK376; obtain ⟨hcz10_0, hcz10_1, hfz10_0, hfz10_1⟩ := cz2_ BK377))
   refine bodyPost_ret (results_cell_row rfl _ _ gb377 24 #[.int .i64 a0_0, .slice A0_1 l0_1.length c0_1] (0, 0) _ rfl (bk2_ BK377.out) Try.underlying24 rfl (by kernel_rfl)) rfl ?_
   exact ⟨_, by first | rfl | (simp [errW_none, errW_some] <;> rfl) | (simp [*, errW_none, errW_some] <;> rfl), by (with_reducible repeat (first | apply Kd.V_alloc | apply Kd.V_drewN | apply Kd.V_drew)); exact Kd.V_mono (Kd.V_far (p := ⟨gb377, 1, none⟩) (Kd.V_far (p := ⟨gb377, 0, none⟩) (Kd.V_mono HO0_1.out (fun k_ hk => (⟨hk, hk.2⟩ : _ ∧ k_ ≠ gb377))) (fun _ hk => hk.2) (.int .i64 a0_0)) (fun _ hk => hk.2) (.slice A0_1 l0_1.length c0_1)) (fun _ hk => hk.1.1.1), HB_⟩
 rw [if_neg c5] at H
 have c5b0 : ((l0_1.length : Int) == 0) = false := beq_eq_false_iff_ne.mpr c5
 have c5b1 : ((l0_1.length : Int) != 0) = true := bne_iff_ne.mpr c5
 have c5b2 : ¬ (l0_1 = []) := fun h_ => c5 (by rw [h_]; rfl)
 obtain ⟨y378, hy378⟩ : ∃ y_ : List Int, y_ = (([] : List Int)) := ⟨_, rfl⟩
 replace H : (if y378.length + l0_1.length < 17592186044416 then ((some (y378 ++ l0_1 : List Int)).bind fun y381 => (if 0 ≤ (wrap64 ((wrap64 (a1 * (wrap64 (a0_0 + 1)))) + a2)) then (if (wrap64 ((wrap64 (a1 * (wrap64 (a0_0 + 1)))) + a2)) < (y381.length : Int) then (if a3 < (rd y381 (wrap64 ((wrap64 (a1 * (wrap64 (a0_0 + 1)))) + a2))) then ((warrantorref08_Close.f k a0_0 (y381.set ((wrap64 ((wrap64 (a1 * (wrap64 (a0_0 + 1)))) + a2)) : Int).toNat a3)).bind fun bt386 => (some (bt386.1, bt386.2))) else ((warrantorref08_Close.f k a0_0 y381).bind fun bt390 => (some (bt390.1, bt390.2)))) else (none)) else (none))) else (none)) = some (r1, r2) := by first | (rw [hy378]; with_reducible exact H) | (have H2_ := (Option.bind_some _ _).symm.trans H; rw [hy378]; with_reducible exact H2_) | (have H2_ := (Option.bind_some _ _).symm.trans H; with_reducible exact H2_) | with_reducible exact H | (rw [hy378]; exact H) | exact H
 have Ny378 := Aside0.mk hy378
 clear hy378
 replace H := yes_ H
 obtain ⟨c11, H⟩ := H
 have LMc11 := Aside0.mk c11
 clear c11
 obtain ⟨y381, hy381⟩ : ∃ y_ : List Int, y_ = (y378 ++ l0_1) := ⟨_, rfl⟩
 replace H : (if 0 ≤ (wrap64 ((wrap64 (a1 * (wrap64 (a0_0 + 1)))) + a2)) then (if (wrap64 ((wrap64 (a1 * (wrap64 (a0_0 + 1)))) + a2)) < (y381.length : Int) then (if a3 < (rd y381 (wrap64 ((wrap64 (a1 * (wrap64 (a0_0 + 1)))) + a2))) then ((warrantorref08_Close.f k a0_0 (y381.set ((wrap64 ((wrap64 (a1 * (wrap64 (a0_0 + 1)))) + a2)) : Int).toNat a3)).bind fun bt386 => (some (bt386.1, bt386.2))) else ((warrantorref08_Close.f k a0_0 y381).bind fun bt390 => (some (bt390.1, bt390.2)))) else (none)) else (none)) = some (r1, r2) := by first | (rw [hy381]; with_reducible exact H) | (have H2_ := (Option.bind_some _ _).symm.trans H; rw [hy381]; with_reducible exact H2_) | (have H2_ := (Option.bind_some _ _).symm.trans H; with_reducible exact H2_) | with_reducible exact H | (rw [hy381]; exact H) | exact H
 have Ny381 := Aside0.mk hy381
 clear hy381
 obtain ⟨ji12, hji12⟩ : ∃ j_ : Int, (wrap64 ((wrap64 (a1 * (wrap64 (a0_0 + 1)))) + a2)) = j_ := ⟨_, rfl⟩
 replace H : (if 0 ≤ (ji12) then (if (ji12) < (y381.length : Int) then (if a3 < (rd y381 (ji12)) then ((warrantorref08_Close.f k a0_0 (y381.set ((ji12) : Int).toNat a3)).bind fun bt386 => (some (bt386.1, bt386.2))) else ((warrantorref08_Close.f k a0_0 y381).bind fun bt390 => (some (bt390.1, bt390.2)))) else (none)) else (none)) = some (r1, r2) := by first | (rw [hji12] at H; exact H) | (simp only [hji12] at H ⊢; exact H)
 have hji12w : (IntKind.i64.wrap ((wrap64 (a1 * (wrap64 (a0_0 + 1)))) + a2)) = ji12 := (i64_w _).trans hji12
 have hji12v : (IntKind.i64.wrap ((IntKind.i64.wrap (a1 * (IntKind.i64.wrap (a0_0 + 1)))) + a2)) = ji12 := by (try simp only [i64_w]); first | exact hji12 | exact hji12w
 replace H := yes_ H
 obtain ⟨c13, H⟩ := H
 have c13b0 : decide (0 ≤ (ji12)) = true := decide_eq_true c13
 clear c13
 replace H := yes_ H
 obtain ⟨c14, H⟩ := H
 have c14b0 : decide ((ji12) < (y381.length : Int)) = true := decide_eq_true c14
 clear c14
 by_cases c15 : a3 < (rd y381 (ji12))
 rotate_left
 · rw [if_neg c15] at H
   have c15b0 : decide (a3 < (rd y381 (ji12))) = false := decide_eq_false c15
   clear c15
   replace H := Option.bind_eq_some_iff.mp H
   obtain ⟨⟨t390, t391⟩, A340, H⟩ := H
   replace H : (some (t390, t391)) = some (r1, r2) := H
   have A34 := Aside0.mk A340
   clear A340
   simp only [Option.some.injEq, Prod.mk.injEq] at H
   obtain ⟨rfl, rfl⟩ := H
   go_enter Try.func32, Try.ntmps32
   go_wp2_with (first | ((with_reducible refine gate_dst (N := 4) rfl ?_); refine bx_ (N := 4) (cs := #[.int .i64 a0_0, .slice A0_1 l0_1.length c0_1]) (t := 24) ?_; intro gb376 hg w35 hbox hb; have n_ := a_ (Aside0.mk (Kd.V_below (Kd.V_elderB (by (with_reducible repeat (first | apply Kd.V_alloc | apply Kd.V_drewN | apply Kd.V_drew)); exact HO0_1.out) gb376 (Nat.le_of_eq hg.symm)) hb)) (a_ (bs_ HB hb) (a_ (Aside0.mk hbox) (a_ (gs_ HB hg) (gs_ HB hg)))); clear HO0_1 HB; obtain ⟨HO0_1, HB, BK376, GW376, GE376⟩ := n_; clear hb hbox hg) | ((with_reducible refine gate_dst (N := 8) rfl ?_); refine bx_ (N := 8) (cs := #[.int .i64 0, .slice none 0 0]) (t := 24) ?_; intro gb377 hg w36 hbox hb; have n_ := a_ (Aside0.mk (Kd.V_below (Kd.V_elderB (by (with_reducible repeat (first | apply Kd.V_alloc | apply Kd.V_drewN | apply Kd.V_drew)); exact HO0_1.out) gb377 (Nat.le_of_eq hg.symm)) hb)) (a_ (bb_ BK376 hb) (a_ (bs_ HB hb) (a_ (Aside0.mk hbox) (a_ (gs_ HB hg) (a_ (gs_ HB hg) (a_ (nl_ BK376 hg) (ng_ BK376 hg))))))); clear HO0_1 BK376 HB; obtain ⟨HO0_1, BK376, HB, BK377, GW377, GE377, NB376_377, NB377_376⟩ := n_; clear hb hbox hg; have hnb37 := NB376_377.out; have hnc37 := NB377_376.out; obtain ⟨hcz38_0, hcz38_1, hfz38_0, hfz38_1⟩ := cz2_ BK376) | ((with_reducible refine gate_dst (N := 16) rfl ?_); refine Kd.R_lit (Kd.int .i64) _ 3 ?hg (N := 16) ?hd (xs := ([] : List Int)) (inner := []) (ok := fun _ => True) (okp := fun _ => True) ?hr ?hp (fun _ hk => hk) trivial (Below.refl _ _) (Nat.le_refl _) (by simp) ?_; (case hd => rfl); (case hg => rfl); (case hr => first | (go_simp; done) | (go_simp; rfl)); (case hp => exact (Reps.none _ _)); intro v379 w39 ho40 hb hg_ hnew_; clear hg_ hnew_; (first | rw [← Ny378.out] at ho40 | (simp only [Int.reduceToNat] at ho40; rw [← Ny378.out] at ho40)); have n_ := a_ (Aside0.mk (Kd.V_elder' (by (with_reducible repeat (first | apply Kd.V_alloc | apply Kd.V_drewN | apply Kd.V_drew)); exact HO0_1.out) (Kd.R_base ho40) hb)) (a_ (Aside0.mk (Kd.R_lower (Kd.R_newM (M := fun k_ => (w.heap.size ≤ k_)) ho40 (below_size HB_) (fun k_ h_ => h_)) (below_size HB_))) (a_ (bb_ BK376 hb) (a_ (bb_ BK377 hb) (bs_ HB hb)))); clear HO0_1 BK376 BK377 HB; obtain ⟨HO0_1, HO380, BK376, BK377, HB⟩ := n_; clear hb ho40; obtain ⟨hcz41_0, hcz41_1, hfz41_0, hfz41_1⟩ := cz2_ BK376) | ((with_reducible refine gate_builtin (b := .append) (xs := #[.tmp 16, .tmp 18]) rfl ?_); at_builtin; refine Kd.R_append_rows (Kd.int .i64) (w0 := w) w.heap.size rfl (.tmp 16) (.tmp 18) 22 3 (.int .i64 0) 8 rfl Try.underlying22 info3 rfl (by decide) (by omega) v379 y378 l0_1 _ _ _ (fun k_ => (w.heap.size ≤ k_)) (fun _ => False) rfl rfl ?aO ?aR (fun _ _ h => h) (fun _ h => h.elim) ?aF ?aB ?aS ?aL ?_; (case aR => repeat (first | exact (Kd.V_reads' HO0_1.out).2.2 | (with_reducible refine Kd.C_alloc ?_ _) | (with_reducible refine Kd.C_drewN ?_ _) | (with_reducible refine Kd.C_drew ?_))); (case aB => exact HB_); (case aF => exact (fun k_ hk => (Nat.le_trans (below_size HB_) hk))); (case aO => exact (rd_ (Kd.R_mono HO380.out (fun _ hk => hk.1)))); (case aS => exact (below_size HB_)); (case aL => have := LMc11.out; omega); intro v382 w42 ho hb hg hat; rw [← Ny381.out] at ho; have n_ := a_ (Aside0.mk (Kd.V_afterv (ok := (fun k_ => (P0_1_ k_ ∨ w.heap.size ≤ k_) ∧ k_ ≠ gb376 ∧ k_ ≠ gb377)) (by (with_reducible repeat (first | apply Kd.V_alloc | apply Kd.V_drewN | apply Kd.V_drew)); exact Kd.V_mono HO0_1.out (fun _ hk => ⟨⟨hk.1.1.1, ⟨hk.1.1.2, hk.1.2⟩⟩, hk.2⟩)) hg hat)) (a_ (Aside0.mk (blk_grown (g := gb376) (o := .cells #[.int .i64 a0_0, .slice A0_1 l0_1.length c0_1] 24 (0, 0)) (bk_ BK376.out) hg (Kd.R_ne HO380.out BK376.out (by decide)))) (a_ (Aside0.mk (blk_grown (g := gb377) (o := .cells #[.int .i64 0, .slice none 0 0] 24 (0, 0)) (bk_ BK377.out) hg (Kd.R_ne HO380.out BK377.out (by decide)))) (a_ (Aside0.mk hb) (Aside0.mk ho)))); clear HO0_1 BK376 BK377 HB HO380; obtain ⟨HO0_1, BK376, BK377, HB, HO383⟩ := n_; clear ho hb hg hat; obtain ⟨hcz43_0, hcz43_1, hfz43_0, hfz43_1⟩ := cz2_ BK376; obtain ⟨Ao44, co44, eo44⟩ := Kd.R_slice HO383.out; subst eo44; have p384 : 0 ≤ ((ji12) : Int) := of_decide_eq_true (by first | (with_reducible assumption) | assumption); have q384 : (ji12) < (y381.length : Int) := of_decide_eq_true (by first | (with_reducible assumption) | assumption); obtain ⟨ad384, e384, hx384_0⟩ := Kd.at_int (Kd.R_reads' HO383.out).2.2 (ji12) p384 q384; cases e384; replace p384 := eq_true p384; replace q384 := eq_true q384) | ((with_reducible refine gate_callee (f := 76) rfl ?_); refine goesL_ (some 40) rfl rfl Try.func76 (by kernel_rfl) rfl #[.int .i64 a0_0, .slice (some ad384) y381.length co44] rfl MP_ ?_; (with_reducible refine (warrantorref08_Close.calls k a0_0 _ _ y381 t390 t391 _ ?side1 ?side2 A34.out).mono ?_); (case side1 => repeat (first | exact (Kd.R_reads' HO383.out).2.2 | (with_reducible refine Kd.C_alloc ?_ _) | (with_reducible refine Kd.C_drewN ?_ _) | (with_reducible refine Kd.C_drew ?_))); (case side2 => exact (Kd.R_reads' HO383.out).2.1); rintro e w45 ⟨v392, rfl, ho0, hb⟩; refine ⟨_, rfl, ?_⟩; have n_ := a_ (Aside0.mk (Kd.V_elder' (by (with_reducible repeat (first | apply Kd.V_alloc | apply Kd.V_drewN | apply Kd.V_drew)); exact HO0_1.out) (Kd.R_base ho0) hb)) (a_ (Aside0.mk (Kd.R_elder' (rd_ HO383.out) (Kd.R_base ho0) hb)) (a_ (Aside0.mk (Kd.R_lower (Kd.R_new' (Kd.R_newM (M := fun k_ => (w.heap.size ≤ k_)) ho0 (below_size HB_) (fun k_ h_ => h_)) (Kd.R_lt (rd_ HO383.out))) (below_size HB_))) (a_ (bb_ BK376 hb) (a_ (bb_ BK377 hb) (bs_ HB hb))))); clear HO0_1 HO383 BK376 BK377 HB; obtain ⟨HO0_1, HO383, HO393, BK376, BK377, HB⟩ := n_; (try clear hb); (try clear hb2); (try clear hk); (try clear hi); (try clear ho0); obtain ⟨hcz46_0, hcz46_1, hfz46_0, hfz46_1⟩ := cz2_ BK377; obtain ⟨Ao47, co47, eo47⟩ := Kd.R_slice HO393.out; subst eo47))
   refine bodyPost_ret (results_cell_row rfl _ _ gb377 24 #[.int .i64 t390, .slice Ao47 t391.length co47] (0, 0) _ rfl (bk2_ BK377.out) Try.underlying24 rfl (by kernel_rfl)) rfl ?_
   exact ⟨_, by first | rfl | (simp [errW_none, errW_some] <;> rfl) | (simp only [← hji12]; first | rfl | (simp [errW_none, errW_some] <;> rfl)) | (simp [*, errW_none, errW_some] <;> rfl), Kd.V_mono (Kd.R_V (rd_ (Kd.R_mono (Kd.R_far (p := ⟨gb377, 1, none⟩) (Kd.R_far (p := ⟨gb377, 0, none⟩) (Kd.R_types HO393.out BK377.out (by decide)) (fun _ hk => hk.2) (.int .i64 t390)) (fun _ hk => hk.2) (.slice Ao47 t391.length co47)) (fun _ hk => hk.1.1.1)))) (fun k_ hk => by first | exact ⟨(.inr (hk.1)), hk.2⟩ | exact (.inr (hk))), HB_⟩
 rw [if_pos c15] at H
 have c15b0 : decide (a3 < (rd y381 (ji12))) = true := decide_eq_true c15
 clear c15
 obtain ⟨y385, hy385⟩ : ∃ y_ : List Int, y_ = (y381.set ((ji12) : Int).toNat a3) := ⟨_, rfl⟩
 replace H : ((warrantorref08_Close.f k a0_0 y385).bind fun bt386 => (some (bt386.1, bt386.2))) = some (r1, r2) := by first | (rw [hy385]; with_reducible exact H) | (have H2_ := (Option.bind_some _ _).symm.trans H; rw [hy385]; with_reducible exact H2_) | (have H2_ := (Option.bind_some _ _).symm.trans H; with_reducible exact H2_) | with_reducible exact H | (rw [hy385]; exact H) | exact H
 have Ny385 := Aside0.mk hy385
 clear hy385
 replace H := Option.bind_eq_some_iff.mp H
 obtain ⟨⟨t386, t387⟩, A170, H⟩ := H
 replace H : (some (t386, t387)) = some (r1, r2) := H
 have A17 := Aside0.mk A170
 clear A170
 simp only [Option.some.injEq, Prod.mk.injEq] at H
 obtain ⟨rfl, rfl⟩ := H
 go_enter Try.func32, Try.ntmps32
 go_wp2_with (first | ((with_reducible refine gate_dst (N := 4) rfl ?_); refine bx_ (N := 4) (cs := #[.int .i64 a0_0, .slice A0_1 l0_1.length c0_1]) (t := 24) ?_; intro gb376 hg w18 hbox hb; have n_ := a_ (Aside0.mk (Kd.V_below (Kd.V_elderB (by (with_reducible repeat (first | apply Kd.V_alloc | apply Kd.V_drewN | apply Kd.V_drew)); exact HO0_1.out) gb376 (Nat.le_of_eq hg.symm)) hb)) (a_ (bs_ HB hb) (a_ (Aside0.mk hbox) (a_ (gs_ HB hg) (gs_ HB hg)))); clear HO0_1 HB; obtain ⟨HO0_1, HB, BK376, GW376, GE376⟩ := n_; clear hb hbox hg) | ((with_reducible refine gate_dst (N := 8) rfl ?_); refine bx_ (N := 8) (cs := #[.int .i64 0, .slice none 0 0]) (t := 24) ?_; intro gb377 hg w19 hbox hb; have n_ := a_ (Aside0.mk (Kd.V_below (Kd.V_elderB (by (with_reducible repeat (first | apply Kd.V_alloc | apply Kd.V_drewN | apply Kd.V_drew)); exact HO0_1.out) gb377 (Nat.le_of_eq hg.symm)) hb)) (a_ (bb_ BK376 hb) (a_ (bs_ HB hb) (a_ (Aside0.mk hbox) (a_ (gs_ HB hg) (a_ (gs_ HB hg) (a_ (nl_ BK376 hg) (ng_ BK376 hg))))))); clear HO0_1 BK376 HB; obtain ⟨HO0_1, BK376, HB, BK377, GW377, GE377, NB376_377, NB377_376⟩ := n_; clear hb hbox hg; have hnb20 := NB376_377.out; have hnc20 := NB377_376.out; obtain ⟨hcz21_0, hcz21_1, hfz21_0, hfz21_1⟩ := cz2_ BK376) | ((with_reducible refine gate_dst (N := 16) rfl ?_); refine Kd.R_lit (Kd.int .i64) _ 3 ?hg (N := 16) ?hd (xs := ([] : List Int)) (inner := []) (ok := fun _ => True) (okp := fun _ => True) ?hr ?hp (fun _ hk => hk) trivial (Below.refl _ _) (Nat.le_refl _) (by simp) ?_; (case hd => rfl); (case hg => rfl); (case hr => first | (go_simp; done) | (go_simp; rfl)); (case hp => exact (Reps.none _ _)); intro v379 w22 ho23 hb hg_ hnew_; clear hg_ hnew_; (first | rw [← Ny378.out] at ho23 | (simp only [Int.reduceToNat] at ho23; rw [← Ny378.out] at ho23)); have n_ := a_ (Aside0.mk (Kd.V_elder' (by (with_reducible repeat (first | apply Kd.V_alloc | apply Kd.V_drewN | apply Kd.V_drew)); exact HO0_1.out) (Kd.R_base ho23) hb)) (a_ (Aside0.mk (Kd.R_lower (Kd.R_newM (M := fun k_ => (w.heap.size ≤ k_)) ho23 (below_size HB_) (fun k_ h_ => h_)) (below_size HB_))) (a_ (bb_ BK376 hb) (a_ (bb_ BK377 hb) (bs_ HB hb)))); clear HO0_1 BK376 BK377 HB; obtain ⟨HO0_1, HO380, BK376, BK377, HB⟩ := n_; clear hb ho23; obtain ⟨hcz24_0, hcz24_1, hfz24_0, hfz24_1⟩ := cz2_ BK376) | ((with_reducible refine gate_builtin (b := .append) (xs := #[.tmp 16, .tmp 18]) rfl ?_); at_builtin; refine Kd.R_append_rows (Kd.int .i64) (w0 := w) w.heap.size rfl (.tmp 16) (.tmp 18) 22 3 (.int .i64 0) 8 rfl Try.underlying22 info3 rfl (by decide) (by omega) v379 y378 l0_1 _ _ _ (fun k_ => (w.heap.size ≤ k_)) (fun _ => False) rfl rfl ?aO ?aR (fun _ _ h => h) (fun _ h => h.elim) ?aF ?aB ?aS ?aL ?_; (case aR => repeat (first | exact (Kd.V_reads' HO0_1.out).2.2 | (with_reducible refine Kd.C_alloc ?_ _) | (with_reducible refine Kd.C_drewN ?_ _) | (with_reducible refine Kd.C_drew ?_))); (case aB => exact HB_); (case aF => exact (fun k_ hk => (Nat.le_trans (below_size HB_) hk))); (case aO => exact (rd_ (Kd.R_mono HO380.out (fun _ hk => hk.1)))); (case aS => exact (below_size HB_)); (case aL => have := LMc11.out; omega); intro v382 w25 ho hb hg hat; rw [← Ny381.out] at ho; have n_ := a_ (Aside0.mk (Kd.V_afterv (ok := (fun k_ => (P0_1_ k_ ∨ w.heap.size ≤ k_) ∧ k_ ≠ gb376 ∧ k_ ≠ gb377)) (by (with_reducible repeat (first | apply Kd.V_alloc | apply Kd.V_drewN | apply Kd.V_drew)); exact Kd.V_mono HO0_1.out (fun _ hk => ⟨⟨hk.1.1.1, ⟨hk.1.1.2, hk.1.2⟩⟩, hk.2⟩)) hg hat)) (a_ (Aside0.mk (blk_grown (g := gb376) (o := .cells #[.int .i64 a0_0, .slice A0_1 l0_1.length c0_1] 24 (0, 0)) (bk_ BK376.out) hg (Kd.R_ne HO380.out BK376.out (by decide)))) (a_ (Aside0.mk (blk_grown (g := gb377) (o := .cells #[.int .i64 0, .slice none 0 0] 24 (0, 0)) (bk_ BK377.out) hg (Kd.R_ne HO380.out BK377.out (by decide)))) (a_ (Aside0.mk hb) (Aside0.mk ho)))); clear HO0_1 BK376 BK377 HB HO380; obtain ⟨HO0_1, BK376, BK377, HB, HO383⟩ := n_; clear ho hb hg hat; obtain ⟨hcz26_0, hcz26_1, hfz26_0, hfz26_1⟩ := cz2_ BK376; obtain ⟨Ao27, co27, eo27⟩ := Kd.R_slice HO383.out; subst eo27; have p384 : 0 ≤ ((ji12) : Int) := of_decide_eq_true (by first | (with_reducible assumption) | assumption); have q384 : (ji12) < (y381.length : Int) := of_decide_eq_true (by first | (with_reducible assumption) | assumption); obtain ⟨ad384, e384, hx384_0⟩ := Kd.at_int (Kd.R_reads' HO383.out).2.2 (ji12) p384 q384; cases e384; replace p384 := eq_true p384; replace q384 := eq_true q384; have p16 : 0 ≤ ((ji12) : Int) := of_decide_eq_true (by first | (with_reducible assumption) | assumption); have q16 : ((ji12) : Int) < ((y381.length : Int) : Int) := of_decide_eq_true (by first | (with_reducible assumption) | assumption); obtain ⟨go16, co16, eo16, gb16, gl16, cl16, HG16⟩ := Kd.R_form HO383.out (by omega); (first | cases eo16 | (injection eo16 with ea_ en_ ec_; (first | subst ea_ | (injection ea_ with ea_; subst ea_)); subst ec_; clear en_)); have GB16 := Aside0.mk gb16; have GG16 := Aside0.mk HG16; clear gb16 gl16 HG16; (first | simp only [add_plain] at hx384_0 | skip); obtain ⟨hx16_0, hf16_0⟩ := Kd.R_celln 0 HO383.out ((ji12) : Int) p16 q16; replace p16 := eq_true p16; replace q16 := eq_true q16; obtain ⟨hy28_, hz28_⟩ := Kd.R_celln 0 HO383.out ((ji12) : Int) (of_decide_eq_true (by first | (with_reducible assumption) | assumption)) (of_decide_eq_true (by first | (with_reducible assumption) | assumption)); have HP28 := Kd.R_putg HO383.out ((ji12) : Int) a3) | ((with_reducible refine gate_store (t := 3) (p := 36) rfl ?_); refine store_event (t := 3) (p := 36) (v := ?vo_w29) (w1 := (w25.setCell ⟨go16, ((ji12) : Int).toNat, none⟩ (.int .i64 a3))) ?hg ?ho ?hn ?hr ?_; (case ho => rfl); (case hg => rfl); (case hn => rfl); (case hr => first | (go_simp; done) | (go_simp; rfl)); intro w29 hw; have hg : w25.grownBy w29 (some go16) := (by rw [hw]; exact HP28.2); have hp_ : Kd.R (Kd.int .i64) 3 w29 w.heap.size (fun k_ => (w.heap.size ≤ k_)) (.slice (some ⟨go16, 0, none⟩) y381.length co27) y385 := (by rw [hw, Ny385.out]; exact HP28.1); clear HP28; have n_ := a_ (Aside0.mk (Kd.V_afterv (v := (.slice (some ⟨go16, 0, none⟩) y381.length co27)) (v1 := (.slice (some ⟨go16, 0, none⟩) y381.length co27)) (ok := (fun k_ => (P0_1_ k_ ∨ w.heap.size ≤ k_) ∧ k_ ≠ gb376 ∧ k_ ≠ gb377)) (by (with_reducible repeat (first | apply Kd.V_alloc | apply Kd.V_drewN | apply Kd.V_drew)); exact HO0_1.out) hg (.inl rfl))) (a_ (Aside0.mk (blk_grown (g := gb376) (o := .cells #[.int .i64 a0_0, .slice A0_1 l0_1.length c0_1] 24 (0, 0)) (bk_ BK376.out) hg (Kd.R_ne HO383.out BK376.out (by decide)))) (a_ (Aside0.mk (blk_grown (g := gb377) (o := .cells #[.int .i64 0, .slice none 0 0] 24 (0, 0)) (bk_ BK377.out) hg (Kd.R_ne HO383.out BK377.out (by decide)))) (a_ (Aside0.mk hp_) (Aside0.mk (by rw [hw]; exact below_set (HB.out) GB16.out : Below w.heap.size w w29))))); clear HO0_1 BK376 BK377 HO383 HB; obtain ⟨HO0_1, BK376, BK377, HO383, HB⟩ := n_; clear hg hw hp_; obtain ⟨hcz30_0, hcz30_1, hfz30_0, hfz30_1⟩ := cz2_ BK376) | ((with_reducible refine gate_callee (f := 76) rfl ?_); refine goesL_ (some 40) rfl rfl Try.func76 (by kernel_rfl) rfl #[.int .i64 a0_0, .slice (some ⟨go16, 0, none⟩) y385.length co27] rfl (by (try simp only [List.map_toArray, List.map_cons, List.map_nil]); first | done | (rw [show y385.length = y381.length from (Kd.R_reads' HO383.out).1.symm] <;> rfl) | rfl | (simp only [List.length_drop, List.length_take]; rfl)) ?_; (with_reducible refine (warrantorref08_Close.calls k a0_0 _ _ y385 t386 t387 _ ?side1 ?side2 A17.out).mono ?_); (case side1 => repeat (first | exact (Kd.R_reads' HO383.out).2.2 | (with_reducible refine Kd.C_alloc ?_ _) | (with_reducible refine Kd.C_drewN ?_ _) | (with_reducible refine Kd.C_drew ?_))); (case side2 => rw [show y385.length = y381.length from (Kd.R_reads' HO383.out).1.symm]; exact (Kd.R_reads' HO383.out).2.1); rintro e w31 ⟨v388, rfl, ho0, hb⟩; refine ⟨_, rfl, ?_⟩; have n_ := a_ (Aside0.mk (Kd.V_elder' (by (with_reducible repeat (first | apply Kd.V_alloc | apply Kd.V_drewN | apply Kd.V_drew)); exact HO0_1.out) (Kd.R_base ho0) hb)) (a_ (Aside0.mk (Kd.R_elder' (rd_ HO383.out) (Kd.R_base ho0) hb)) (a_ (Aside0.mk (Kd.R_lower (Kd.R_new' (Kd.R_newM (M := fun k_ => (w.heap.size ≤ k_)) ho0 (below_size HB_) (fun k_ h_ => h_)) (Kd.R_lt (rd_ HO383.out))) (below_size HB_))) (a_ (bb_ BK376 hb) (a_ (bb_ BK377 hb) (bs_ HB hb))))); clear HO0_1 HO383 BK376 BK377 HB; obtain ⟨HO0_1, HO383, HO389, BK376, BK377, HB⟩ := n_; (try clear hb); (try clear hb2); (try clear hk); (try clear hi); (try clear ho0); obtain ⟨hcz32_0, hcz32_1, hfz32_0, hfz32_1⟩ := cz2_ BK377; obtain ⟨Ao33, co33, eo33⟩ := Kd.R_slice HO389.out; subst eo33))
 refine bodyPost_ret (results_cell_row rfl _ _ gb377 24 #[.int .i64 t386, .slice Ao33 t387.length co33] (0, 0) _ rfl (bk2_ BK377.out) Try.underlying24 rfl (by kernel_rfl)) rfl ?_
 exact ⟨_, by first | rfl | (simp [errW_none, errW_some] <;> rfl) | (simp only [← hji12]; first | rfl | (simp [errW_none, errW_some] <;> rfl)) | (simp [*, errW_none, errW_some] <;> rfl), Kd.V_mono (Kd.R_V (rd_ (Kd.R_mono (Kd.R_far (p := ⟨gb377, 1, none⟩) (Kd.R_far (p := ⟨gb377, 0, none⟩) (Kd.R_types HO389.out BK377.out (by decide)) (fun _ hk => hk.2) (.int .i64 t386)) (fun _ hk => hk.2) (.slice Ao33 t387.length co33)) (fun _ hk => hk.1.1.1)))) (fun k_ hk => by first | exact ⟨(.inr (hk.1)), hk.2⟩ | exact (.inr (hk))), HB_⟩
def warrantorref07_None.f  : Option (Int × Int) := some (1, 0)
set_option maxHeartbeats 8000000 in
set_option maxRecDepth 100000 in
theorem warrantorref07_None.calls  (r1 : Int) (r2 : Int) (w : World) (h : warrantorref07_None.f  = some (r1, r2)) :
  Calls Try.prog 54 #[] w fun e w' => e = .returned (.agg #[.int .i64 r1, .int .i64 r2]) ∧ Below w.heap.size w w' := by
 have hu39 := Try.underlying39
 have HB := Aside0.mk (Below.refl w.heap.size w)
 have H : (some (1, 0)) = some (r1, r2) := h
 clear h
 simp only [Option.some.injEq, Prod.mk.injEq] at H
 obtain ⟨rfl, rfl⟩ := H
 go_enter Try.func54, Try.ntmps54
 go_wp2_with (first | ((with_reducible refine gate_dst (N := 0) rfl ?_); refine bx_ (N := 0) (cs := #[.int .i64 0, .int .i64 0]) (t := 39) ?_; intro gb394 hg w1 hbox hb; have n_ := a_ (bs_ HB hb) (a_ (Aside0.mk hbox) (a_ (gs_ HB hg) (gs_ HB hg))); clear HB; obtain ⟨HB, BK394, GW394, GE394⟩ := n_; clear hb hbox hg; obtain ⟨hcz2_0, hcz2_1, hfz2_0, hfz2_1⟩ := cz2_ BK394))
 refine bodyPost_ret (results_cell_row rfl _ _ gb394 39 #[.int .i64 1, .int .i64 0] (0, 0) _ rfl (bk2_ BK394.out) Try.underlying39 rfl (by kernel_rfl)) rfl ?_
 exact ⟨by first | rfl | (simp [errW_none, errW_some] <;> rfl) | (simp [*, errW_none, errW_some] <;> rfl), HB_⟩
def warrantorref06_Clip.f (a0 : Int) : Option (Int) := if a0 > 1099511627776 then (some 1099511627776) else (if a0 < (-1099511627776) then (some (-1099511627776)) else (some a0))
set_option maxHeartbeats 8000000 in
set_option maxRecDepth 100000 in
theorem warrantorref06_Clip.calls (a0 : Int) (r : Int) (w : World) (h : warrantorref06_Clip.f a0 = some r) :
   Calls Try.prog 58 #[.int .i64 a0] w fun e w' => e = .returned (.int .i64 r) ∧ Drawn0 w w' := by
 have H : (if a0 > 1099511627776 then (some 1099511627776) else (if a0 < (-1099511627776) then (some (-1099511627776)) else (some a0))) = some r := h
 clear h
 by_cases c2 : a0 > 1099511627776
 · rw [if_pos c2] at H
   have c2b0 : decide (1099511627776 < a0) = true := decide_eq_true c2
   clear c2
   obtain rfl := Option.some.inj H
   go_enter Try.func58, Try.ntmps58
   go_wp2
   go_ret
   exact ⟨by first | rfl | (simp; done) | (simp [*]; done), by repeat (first | exact Drawn0.refl _ | apply Drawn0.step)⟩
 rw [if_neg c2] at H
 have c2b0 : decide (1099511627776 < a0) = false := decide_eq_false c2
 clear c2
 by_cases c3 : a0 < (-1099511627776)
 · rw [if_pos c3] at H
   have c3b0 : decide (a0 < (-1099511627776)) = true := decide_eq_true c3
   clear c3
   obtain rfl := Option.some.inj H
   go_enter Try.func58, Try.ntmps58
   go_wp2
   go_ret
   exact ⟨by first | rfl | (simp; done) | (simp [*]; done), by repeat (first | exact Drawn0.refl _ | apply Drawn0.step)⟩
 rw [if_neg c3] at H
 have c3b0 : decide (a0 < (-1099511627776)) = false := decide_eq_false c3
 clear c3
 obtain rfl := Option.some.inj H
 go_enter Try.func58, Try.ntmps58
 go_wp2
 go_ret
 exact ⟨by first | rfl | (simp; done) | (simp [*]; done), by repeat (first | exact Drawn0.refl _ | apply Drawn0.step)⟩
def warrantorref07_Of.j0 : Nat → Int → Int → Bool → Option (Int × Int)
 | 0, _, _, _ => none
 | k + 1, x0, x1, x15 => if x15 = true then ((warrantorref07_None.f).bind fun bt396 => (some (bt396.1, bt396.2))) else ((warrantorref06_Clip.f x0).bind fun t398 => ((warrantorref06_Clip.f x1).bind fun t399 => (some (t398, t399))))
def warrantorref07_Of.f (k : Nat) (a0 : Int) (a1 : Int) : Option (Int × Int) := if a0 > a1 then (warrantorref07_Of.j0 k a0 a1 true) else (if a0 > 1099511627776 then (warrantorref07_Of.j0 k a0 a1 true) else (warrantorref07_Of.j0 k a0 a1 (decide (a1 < (-1099511627776)))))
theorem warrantorref07_Of.mono_l : ∀ k, (∀ y0 y1 y2, LeO (warrantorref07_Of.j0 k y0 y1 y2) (warrantorref07_Of.j0 (k + 1) y0 y1 y2))
 | 0 => fun _ _ _ r h => by simp [warrantorref07_Of.j0] at h
 | k + 1 => by
  have ih0 := warrantorref07_Of.mono_l k
  · intro y0 y1 y2
    unfold warrantorref07_Of.j0
    repeat' first
    | (with_reducible exact ih0 _ _ _)
    | (with_reducible exact LeO.refl _)
    | (with_reducible exact LeO.none _)
    | (with_reducible refine LeO.ite ?_ ?_)
    | (with_reducible refine LeO.bind ?_ (fun _ => ?_))
    | exact ih0 _ _ _
    | exact LeO.none _
    | refine LeO.ite ?_ ?_
    | refine LeO.bind ?_ (fun _ => ?_)
theorem warrantorref07_Of.mono : ∀ a0 a1 k, LeO (warrantorref07_Of.f k a0 a1) (warrantorref07_Of.f (k + 1) a0 a1) := by
 intro a0 a1 k
 have ih0 := warrantorref07_Of.mono_l k
 unfold warrantorref07_Of.f
 repeat' first
  | (with_reducible exact ih0 _ _ _)
  | (with_reducible exact LeO.refl _)
  | (with_reducible exact LeO.none _)
  | (with_reducible refine LeO.ite ?_ ?_)
  | (with_reducible refine LeO.bind ?_ (fun _ => ?_))
  | exact ih0 _ _ _
  | exact LeO.none _
  | refine LeO.ite ?_ ?_
  | refine LeO.bind ?_ (fun _ => ?_)
set_option maxHeartbeats 8000000 in
set_option maxRecDepth 100000 in
theorem warrantorref07_Of.calls (k : Nat) (a0 : Int) (a1 : Int) (r1 : Int) (r2 : Int) (w : World) (h : warrantorref07_Of.f k a0 a1 = some (r1, r2)) :
  Calls Try.prog 92 #[.int .i64 a0, .int .i64 a1] w fun e w' => e = .returned (.agg #[.int .i64 r1, .int .i64 r2]) ∧ Below w.heap.size w w' := by
 have hu39 := Try.underlying39
 have HB := Aside0.mk (Below.refl w.heap.size w)
 have H : (if a0 > a1 then (warrantorref07_Of.j0 k a0 a1 true) else (if a0 > 1099511627776 then (warrantorref07_Of.j0 k a0 a1 true) else (warrantorref07_Of.j0 k a0 a1 (decide (a1 < (-1099511627776)))))) = some (r1, r2) := h
 clear h
 have HC3 := Aside0.mk H
 clear H
 go_enter Try.func92, Try.ntmps92
 go_upto_region 1 with (first | ((with_reducible refine gate_dst (N := 4) rfl ?_); refine bx_ (N := 4) (cs := #[.int .i64 0, .int .i64 0]) (t := 39) ?_; intro gb395 hg w4 hbox hb; have n_ := a_ (bs_ HB hb) (a_ (Aside0.mk hbox) (a_ (gs_ HB hg) (gs_ HB hg))); clear HB; obtain ⟨HB, BK395, GW395, GE395⟩ := n_; clear hb hbox hg))
 (try simp only [Act.put, List.setIfInBounds_toArray, List.set_cons_zero, List.set_cons_succ])
 go_cut [15] (fun v15 wc => ∃ (kq : Nat) (x15_2 : Bool), v15 = .bool x15_2 ∧ Aside0 (warrantorref07_Of.j0 kq a0 a1 x15_2 = some (r1, r2)) ∧ Aside0 (kq ≤ k) ∧ Aside0 (wc.heap[gb395]? = some (.cells #[.int .i64 0, .int .i64 0] 39 (0, 0))) ∧ Aside0 (Below w.heap.size w wc))
 case first =>
  have H := HC3.out
  clear HC3
  by_cases c5 : a0 > a1
  · rw [if_pos c5] at H
    have c5b0 : decide (a1 < a0) = true := decide_eq_true c5
    clear c5
    (first | rw [c5b0] | (simp only [i64_w, i32_w]; rw [c5b0]) | skip)
    have H' := Aside0.mk H
    clear H
    go_wp2
    go_meet
    case rel => exact ⟨_, (true), (by first | rfl | (simp; done) | (simp [*]; done)), H', ⟨by first | omega | exact Nat.le_refl _⟩, ⟨by (with_reducible repeat (first | refine blk_drewN ?_ _ | refine blk_drew ?_ | refine blk_alloc ?_ _)); exact BK395.out⟩, ⟨HB_⟩⟩
  rw [if_neg c5] at H
  have c5b0 : decide (a1 < a0) = false := decide_eq_false c5
  clear c5
  (first | rw [c5b0] | (simp only [i64_w, i32_w]; rw [c5b0]) | skip)
  by_cases c6 : a0 > 1099511627776
  rotate_left
  · rw [if_neg c6] at H
    have c6b0 : decide (1099511627776 < a0) = false := decide_eq_false c6
    clear c6
    have H' := Aside0.mk H
    clear H
    go_wp2
    go_meet
    case rel => exact ⟨_, (decide (a1 < (-1099511627776))), (by first | rfl | (simp; done) | (simp [*]; done)), H', ⟨by first | omega | exact Nat.le_refl _⟩, ⟨by (with_reducible repeat (first | refine blk_drewN ?_ _ | refine blk_drew ?_ | refine blk_alloc ?_ _)); exact BK395.out⟩, ⟨HB_⟩⟩
  rw [if_pos c6] at H
  have c6b0 : decide (1099511627776 < a0) = true := decide_eq_true c6
  clear c6
  have H' := Aside0.mk H
  clear H
  go_wp2
  go_meet
  case rel => exact ⟨_, (true), (by first | rfl | (simp; done) | (simp [*]; done)), H', ⟨by first | omega | exact Nat.le_refl _⟩, ⟨by (with_reducible repeat (first | refine blk_drewN ?_ _ | refine blk_drew ?_ | refine blk_alloc ?_ _)); exact BK395.out⟩, ⟨HB_⟩⟩
 case rest =>
  clear HC3
  try clear p2
  try clear c5
  try clear c5b0
  try clear c6
  try clear c6b0
  obtain ⟨kq, x15_2, rfl, HA, HJ2, BK395, HB⟩ := hcut
  cases kq with
  | zero => exact absurd HA.out (by simp [warrantorref07_Of.j0])
  | succ kj2 =>
    have H := HA.out
    clear HA
    simp only [warrantorref07_Of.j0] at H
    by_cases c7 : x15_2 = true
    · subst c7
      have H1 : ((warrantorref07_None.f).bind fun bt396 => (some (bt396.1, bt396.2))) = some (r1, r2) := by rw [if_pos rfl] at H; exact H
      clear H
      have H := H1
      clear H1
      replace H := Option.bind_eq_some_iff.mp H
      obtain ⟨⟨t396, t397⟩, A80, H⟩ := H
      replace H : (some (t396, t397)) = some (r1, r2) := H
      have A8 := Aside0.mk A80
      clear A80
      simp only [Option.some.injEq, Prod.mk.injEq] at H
      obtain ⟨rfl, rfl⟩ := H
      go_wp2_with (first | ((with_reducible refine gate_callee (f := 54) rfl ?_); refine goesL_ (some 16) rfl rfl Try.func54 (by kernel_rfl) rfl #[] rfl MP_ ?_; (with_reducible refine (warrantorref07_None.calls  t396 t397 _ A8.out).mono ?_); rintro e w9 ⟨rfl, hb⟩; refine ⟨_, rfl, ?_⟩; have n_ := a_ (bb_ BK395 hb) (bs_ HB hb); clear BK395 HB; obtain ⟨BK395, HB⟩ := n_; (try clear hb); (try clear hb2); (try clear hk); (try clear hi); obtain ⟨hcz10_0, hcz10_1, hfz10_0, hfz10_1⟩ := cz2_ BK395))
      refine bodyPost_ret (results_cell_row rfl _ _ gb395 39 #[.int .i64 t396, .int .i64 t397] (0, 0) _ rfl (bk2_ BK395.out) Try.underlying39 rfl (by kernel_rfl)) rfl ?_
      exact ⟨by first | rfl | (simp [errW_none, errW_some] <;> rfl) | (simp [*, errW_none, errW_some] <;> rfl), HB_⟩
    replace c7 := Bool.eq_false_iff.mpr c7
    subst c7
    have H1 : ((warrantorref06_Clip.f a0).bind fun t398 => ((warrantorref06_Clip.f a1).bind fun t399 => (some (t398, t399)))) = some (r1, r2) := by rw [if_neg (show ¬ (false = true) by decide)] at H; exact H
    clear H
    have H := H1
    clear H1
    replace H := Option.bind_eq_some_iff.mp H
    obtain ⟨t398, A110, H⟩ := H
    replace H : ((warrantorref06_Clip.f a1).bind fun t399 => (some (t398, t399))) = some (r1, r2) := H
    have A11 := Aside0.mk A110
    clear A110
    replace H := Option.bind_eq_some_iff.mp H
    obtain ⟨t399, A120, H⟩ := H
    replace H : (some (t398, t399)) = some (r1, r2) := H
    have A12 := Aside0.mk A120
    clear A120
    simp only [Option.some.injEq, Prod.mk.injEq] at H
    obtain ⟨rfl, rfl⟩ := H
    go_wp2_with (first | ((with_reducible refine gate_callee (f := 58) rfl ?_); refine goesL_ (some 18) rfl rfl Try.func58 (by kernel_rfl) rfl #[.int .i64 a0] rfl MP_ ?_; (with_reducible refine (warrantorref06_Clip.calls a0 t398 _ A11.out).mono ?_); rintro e w' ⟨rfl, ⟨nd, rfl⟩⟩; refine ⟨_, rfl, ?_⟩; (try (rw [drewN_self wc]; generalize hq_ : World.drewN wc _ = wc; have n0_ : Aside0 (wc.heap[gb395]? = some (.cells #[.int .i64 0, .int .i64 0] 39 (0, 0))) := ⟨by rw [← hq_]; exact (bk_ BK395.out)⟩; have n1_ : Aside0 (Below w.heap.size w wc) := ⟨by rw [← hq_]; exact HB_⟩; clear BK395 HB hq_; have BK395 := n0_; have HB := n1_; clear n0_ n1_)); (try clear A11)) | ((with_reducible refine gate_callee (f := 58) rfl ?_); refine goesL_ (some 20) rfl rfl Try.func58 (by kernel_rfl) rfl #[.int .i64 a1] rfl MP_ ?_; (with_reducible refine (warrantorref06_Clip.calls a1 t399 _ A12.out).mono ?_); rintro e w' ⟨rfl, ⟨nd, rfl⟩⟩; refine ⟨_, rfl, ?_⟩; (try (rw [drewN_self wc]; generalize hq_ : World.drewN wc _ = wc; have n0_ : Aside0 (wc.heap[gb395]? = some (.cells #[.int .i64 0, .int .i64 0] 39 (0, 0))) := ⟨by rw [← hq_]; exact (bk_ BK395.out)⟩; have n1_ : Aside0 (Below w.heap.size w wc) := ⟨by rw [← hq_]; exact HB_⟩; clear BK395 HB hq_; have BK395 := n0_; have HB := n1_; clear n0_ n1_)); obtain ⟨hcz13_0, hcz13_1, hfz13_0, hfz13_1⟩ := cz2_ BK395))
    refine bodyPost_ret (results_cell_row rfl _ _ gb395 39 #[.int .i64 t398, .int .i64 t399] (0, 0) _ rfl (bk2_ BK395.out) Try.underlying39 rfl (by kernel_rfl)) rfl ?_
    exact ⟨by first | rfl | (simp [errW_none, errW_some] <;> rfl) | (simp [*, errW_none, errW_some] <;> rfl), HB_⟩
def warrantorref07_Plain.f (k : Nat) (a0_0 : Int) (a0_1 : Int) : Option (Int × Int) := (warrantorref07_Of.f k a0_0 a0_1).bind fun bt402 => (some (bt402.1, bt402.2))
theorem warrantorref07_Plain.mono : ∀ a0 a1 k, LeO (warrantorref07_Plain.f k a0 a1) (warrantorref07_Plain.f (k + 1) a0 a1) := by
 intro a0 a1 k
 unfold warrantorref07_Plain.f
 repeat' first
  | (with_reducible exact warrantorref07_Of.mono _ _ _)
  | (with_reducible exact LeO.refl _)
  | (with_reducible exact LeO.none _)
  | (with_reducible refine LeO.ite ?_ ?_)
  | (with_reducible refine LeO.bind ?_ (fun _ => ?_))
  | exact warrantorref07_Of.mono _ _ _
  | exact LeO.none _
  | refine LeO.ite ?_ ?_
  | refine LeO.bind ?_ (fun _ => ?_)
set_option maxHeartbeats 8000000 in
set_option maxRecDepth 100000 in
theorem warrantorref07_Plain.calls (k : Nat) (a0_0 : Int) (a0_1 : Int) (r1 : Int) (r2 : Int) (w : World) (h : warrantorref07_Plain.f k a0_0 a0_1 = some (r1, r2)) :
  Calls Try.prog 53 #[.agg #[.int .i64 a0_0, .int .i64 a0_1]] w fun e w' => e = .returned (.agg #[.int .i64 r1, .int .i64 r2]) ∧ Below w.heap.size w w' := by
 have hu39 := Try.underlying39
 have HB := Aside0.mk (Below.refl w.heap.size w)
 have H : ((warrantorref07_Of.f k a0_0 a0_1).bind fun bt402 => (some (bt402.1, bt402.2))) = some (r1, r2) := h
 clear h
 replace H := Option.bind_eq_some_iff.mp H
 obtain ⟨⟨t402, t403⟩, A20, H⟩ := H
 replace H : (some (t402, t403)) = some (r1, r2) := H
 have A2 := Aside0.mk A20
 clear A20
 simp only [Option.some.injEq, Prod.mk.injEq] at H
 obtain ⟨rfl, rfl⟩ := H
 go_enter Try.func53, Try.ntmps53
 go_wp2_with (first | ((with_reducible refine gate_dst (N := 1) rfl ?_); refine bx_ (N := 1) (cs := #[.int .i64 a0_0, .int .i64 a0_1]) (t := 39) ?_; intro gb400 hg w3 hbox hb; have n_ := a_ (bs_ HB hb) (a_ (Aside0.mk hbox) (a_ (gs_ HB hg) (gs_ HB hg))); clear HB; obtain ⟨HB, BK400, GW400, GE400⟩ := n_; clear hb hbox hg) | ((with_reducible refine gate_dst (N := 2) rfl ?_); refine bx_ (N := 2) (cs := #[.int .i64 0, .int .i64 0]) (t := 39) ?_; intro gb401 hg w4 hbox hb; have n_ := a_ (bb_ BK400 hb) (a_ (bs_ HB hb) (a_ (Aside0.mk hbox) (a_ (gs_ HB hg) (a_ (gs_ HB hg) (a_ (nl_ BK400 hg) (ng_ BK400 hg)))))); clear BK400 HB; obtain ⟨BK400, HB, BK401, GW401, GE401, NB400_401, NB401_400⟩ := n_; clear hb hbox hg; have hnb5 := NB400_401.out; have hnc5 := NB401_400.out; obtain ⟨hcz6_0, hcz6_1, hfz6_0, hfz6_1⟩ := cz2_ BK400) | ((with_reducible refine gate_callee (f := 92) rfl ?_); refine goesL_ (some 7) rfl rfl Try.func92 (by kernel_rfl) rfl #[.int .i64 a0_0, .int .i64 a0_1] rfl MP_ ?_; (with_reducible refine (warrantorref07_Of.calls k a0_0 a0_1 t402 t403 _ A2.out).mono ?_); rintro e w7 ⟨rfl, hb⟩; refine ⟨_, rfl, ?_⟩; have n_ := a_ (bb_ BK400 hb) (a_ (bb_ BK401 hb) (bs_ HB hb)); clear BK400 BK401 HB; obtain ⟨BK400, BK401, HB⟩ := n_; (try clear hb); (try clear hb2); (try clear hk); (try clear hi); obtain ⟨hcz8_0, hcz8_1, hfz8_0, hfz8_1⟩ := cz2_ BK401))
 refine bodyPost_ret (results_cell_row rfl _ _ gb401 39 #[.int .i64 t402, .int .i64 t403] (0, 0) _ rfl (bk2_ BK401.out) Try.underlying39 rfl (by kernel_rfl)) rfl ?_
 exact ⟨by first | rfl | (simp [errW_none, errW_some] <;> rfl) | (simp [*, errW_none, errW_some] <;> rfl), HB_⟩
end Go.Proofs.Ytgeemdpflcefkaa.Y
