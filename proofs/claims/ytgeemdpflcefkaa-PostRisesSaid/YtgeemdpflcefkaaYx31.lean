import Derived.Test.YtgeemdpflcefkaaYx0
import Derived.Test.YtgeemdpflcefkaaYx30
namespace Go.Proofs.Ytgeemdpflcefkaa.Y
open Go.RowKit Go.Proofs.YtgeemdpflcefkaaW.PrintWords Go.Proofs.YtgeemdpflcefkaaW.PrintLast Go.Proofs.YtgeemdpflcefkaaW.PrintMore
attribute [local go_sem] max2_int min2_int max_two min_two max_three min_three max_four min_four   -- for this text's walks alone
set_option linter.unusedVariables false
set_option linter.unusedSimpArgs false
def warrantorref08_All.l0 : Nat → Int → List Int → Int → Option (Int × List Int)
 | 0, _, _, _ => none
 | k + 1, x0, x3, x4 => if x4 < (wrap64 ((wrap64 (x0 + 1)) * (wrap64 (x0 + 1)))) then (if x3.length < 17592186044416 then (warrantorref08_All.l0 k x0 (x3 ++ [4398046511104]) (wrap64 (x4 + 1))) else (none)) else ((warrantorref08_Close.f k x0 x3).bind fun bt408 => (some (bt408.1, bt408.2)))
def warrantorref08_All.f (k : Nat) (a0 : Int) : Option (Int × List Int) := warrantorref08_All.l0 k a0 ([] : List Int) 0
theorem warrantorref08_All.mono_l : ∀ k, (∀ y0 y1 y2, LeO (warrantorref08_All.l0 k y0 y1 y2) (warrantorref08_All.l0 (k + 1) y0 y1 y2))
 | 0 => fun _ _ _ r h => by simp [warrantorref08_All.l0] at h
 | k + 1 => by
  have ih0 := warrantorref08_All.mono_l k
  · intro y0 y1 y2
    unfold warrantorref08_All.l0
    repeat' first
    | (with_reducible exact ih0 _ _ _)
    | (with_reducible exact warrantorref08_Close.mono _ _ _)
    | (with_reducible exact LeO.refl _)
    | (with_reducible exact LeO.none _)
    | (with_reducible refine LeO.ite ?_ ?_)
    | (with_reducible refine LeO.bind ?_ (fun _ => ?_))
    | exact ih0 _ _ _
    | exact warrantorref08_Close.mono _ _ _
    | exact LeO.none _
    | refine LeO.ite ?_ ?_
    | refine LeO.bind ?_ (fun _ => ?_)
theorem warrantorref08_All.mono : ∀ a0 k, LeO (warrantorref08_All.f k a0) (warrantorref08_All.f (k + 1) a0) := by
 intro a0 k
 have ih0 := warrantorref08_All.mono_l k
 unfold warrantorref08_All.f
 repeat' first
  | (with_reducible exact ih0 _ _ _)
  | (with_reducible exact warrantorref08_Close.mono _ _ _)
  | (with_reducible exact LeO.refl _)
  | (with_reducible exact LeO.none _)
  | (with_reducible refine LeO.ite ?_ ?_)
  | (with_reducible refine LeO.bind ?_ (fun _ => ?_))
  | exact ih0 _ _ _
  | exact warrantorref08_Close.mono _ _ _
  | exact LeO.none _
  | refine LeO.ite ?_ ?_
  | refine LeO.bind ?_ (fun _ => ?_)
set_option maxHeartbeats 8000000 in
set_option maxRecDepth 100000 in
theorem warrantorref08_All.calls (k : Nat) (a0 : Int) (r1 : Int) (r2 : List Int) (w : World) (h : warrantorref08_All.f k a0 = some (r1, r2)) :
  Calls Try.prog 90 #[.int .i64 a0] w fun e w' => ∃ v1_ : Value, e = .returned (.agg #[.int .i64 r1, v1_]) ∧ Kd.R (Kd.int .i64) 3 w' w.heap.size (fun _ => True) v1_ r2 ∧ Below w.heap.size w w' := by
 have hu24 := Try.underlying24
 have HB := Aside0.mk (Below.refl w.heap.size w)
 have H : (warrantorref08_All.l0 k a0 ([] : List Int) 0) = some (r1, r2) := h
 clear h
 have H' := Aside0.mk H
 clear H
 go_enter Try.func90, Try.ntmps90
 go_wp2_with (first | ((with_reducible refine gate_dst (N := 2) rfl ?_); refine bx_ (N := 2) (cs := #[.int .i64 0, .slice none 0 0]) (t := 24) ?_; intro gb404 hg w2 hbox hb; have n_ := a_ (bs_ HB hb) (a_ (Aside0.mk hbox) (a_ (gs_ HB hg) (gs_ HB hg))); clear HB; obtain ⟨HB, BK404, GW404, GE404⟩ := n_; clear hb hbox hg))
 go_loopg [3, 4] k (fun kq v3 v4 w' => ∃ (x3_1 : List Int) (x4_1 : Int), v4 = .int .i64 x4_1 ∧ Aside0 (warrantorref08_All.l0 kq a0 x3_1 x4_1 = some (r1, r2)) ∧ Aside0 (kq ≤ k) ∧ Aside0 (Kd.R (Kd.int .i64) 3 w' w.heap.size (fun _ => True) v3 x3_1) ∧ Aside0 (w'.heap[gb404]? = some (.cells #[.int .i64 0, (.slice none 0 0)] 24 (0, 0))) ∧ Aside0 (Below w.heap.size w w'))
 case atStart => exact ⟨(([] : List Int)), (0), (by first | rfl | (simp; done) | (simp [*]; done)), H', ⟨Nat.le_refl _⟩, ⟨by first | exact Kd.R_nil _ _ _ _ _ | exact Kd.N_nil _ _ _ _ _ | exact Kd.V_nil _ _ _ _ _ | exact Kd.Q_nil _ _ _ _ _ | exact Kd.S_nil _ _ _ _ _⟩, ⟨by (with_reducible repeat (first | refine blk_drewN ?_ _ | refine blk_drew ?_ | refine blk_alloc ?_ _)); exact BK404.out⟩, ⟨HB_⟩⟩
 case round =>
  clear H'
  try clear p2
  obtain ⟨x3_1, x4_1, rfl, HA, HK1, HO_3, BK404, HB⟩ := hrel
  cases gk with
  | zero => exact absurd HA.out (by simp [warrantorref08_All.l0])
  | succ k1 =>
   have H := HA.out
   clear HA
   simp only [warrantorref08_All.l0] at H
   by_cases c3 : x4_1 < (wrap64 ((wrap64 (a0 + 1)) * (wrap64 (a0 + 1))))
   rotate_left
   · rw [if_neg c3] at H
     have c3b0 : decide (x4_1 < (wrap64 ((wrap64 (a0 + 1)) * (wrap64 (a0 + 1))))) = false := decide_eq_false c3
     have c3b0v : decide (x4_1 < (IntKind.i64.wrap ((IntKind.i64.wrap (a0 + 1)) * (IntKind.i64.wrap (a0 + 1))))) = false := by (try simp only [i64_w]); exact c3b0
     clear c3
     replace H := Option.bind_eq_some_iff.mp H
     obtain ⟨⟨t408, t409⟩, A60, H⟩ := H
     replace H : (some (t408, t409)) = some (r1, r2) := H
     have A6 := Aside0.mk A60
     clear A60
     simp only [Option.some.injEq, Prod.mk.injEq] at H
     obtain ⟨rfl, rfl⟩ := H
     obtain ⟨Ao7, co7, eo7⟩ := Kd.R_slice HO_3.out
     subst eo7
     go_wp2_with (first | ((with_reducible refine gate_callee (f := 76) rfl ?_); refine goesL_ (some 19) rfl rfl Try.func76 (by kernel_rfl) rfl #[.int .i64 a0, .slice Ao7 x3_1.length co7] rfl MP_ ?_; (with_reducible refine (warrantorref08_Close.calls k1 a0 _ _ x3_1 t408 t409 _ ?side1 ?side2 A6.out).mono ?_); (case side1 => repeat (first | exact (Kd.R_reads' HO_3.out).2.2 | (with_reducible refine Kd.C_alloc ?_ _) | (with_reducible refine Kd.C_drewN ?_ _) | (with_reducible refine Kd.C_drew ?_))); (case side2 => exact (Kd.R_reads' HO_3.out).2.1); rintro e w8 ⟨v410, rfl, ho0, hb⟩; refine ⟨_, rfl, ?_⟩; have n_ := a_ (Aside0.mk (Kd.R_elder' (rd_ HO_3.out) (Kd.R_base ho0) hb)) (a_ (Aside0.mk (Kd.R_lower (Kd.R_new' ho0 (Kd.R_lt (rd_ HO_3.out))) (below_size HB_))) (a_ (bb_ BK404 hb) (bs_ HB hb))); clear HO_3 BK404 HB; obtain ⟨HO_3, HO411, BK404, HB⟩ := n_; (try clear hb); (try clear hb2); (try clear hk); (try clear hi); (try clear ho0); obtain ⟨hcz9_0, hcz9_1, hfz9_0, hfz9_1⟩ := cz2_ BK404; obtain ⟨Ao10, co10, eo10⟩ := Kd.R_slice HO411.out; subst eo10))
     refine bodyPost_ret (results_cell_row rfl _ _ gb404 24 #[.int .i64 t408, .slice Ao10 t409.length co10] (0, 0) _ rfl (bk2_ BK404.out) Try.underlying24 rfl (by kernel_rfl)) rfl ?_
     exact ⟨_, by first | rfl | (simp [errW_none, errW_some] <;> rfl) | (simp [*, errW_none, errW_some] <;> rfl), by (with_reducible repeat (first | apply Kd.R_alloc | apply Kd.R_drewN | apply Kd.R_drew)); exact Kd.R_mono (Kd.R_far (p := ⟨gb404, 1, none⟩) (Kd.R_far (p := ⟨gb404, 0, none⟩) (Kd.R_types HO411.out BK404.out (by decide)) (fun _ hk => hk.2) (.int .i64 t408)) (fun _ hk => hk.2) (.slice Ao10 t409.length co10)) (fun _ hk => trivial), HB_⟩
   rw [if_pos c3] at H
   have c3b0 : decide (x4_1 < (wrap64 ((wrap64 (a0 + 1)) * (wrap64 (a0 + 1))))) = true := decide_eq_true c3
   have c3b0v : decide (x4_1 < (IntKind.i64.wrap ((IntKind.i64.wrap (a0 + 1)) * (IntKind.i64.wrap (a0 + 1))))) = true := by (try simp only [i64_w]); exact c3b0
   clear c3
   replace H := yes_ H
   obtain ⟨c4, H⟩ := H
   have LMc4 := Aside0.mk c4
   clear c4
   obtain ⟨y405, hy405⟩ : ∃ y_ : List Int, y_ = (x3_1 ++ [4398046511104]) := ⟨_, rfl⟩
   replace H : (warrantorref08_All.l0 k1 a0 y405 (wrap64 (x4_1 + 1))) = some (r1, r2) := by first | (rw [hy405]; with_reducible exact H) | (have H2_ := (Option.bind_some _ _).symm.trans H; rw [hy405]; with_reducible exact H2_) | (have H2_ := (Option.bind_some _ _).symm.trans H; with_reducible exact H2_) | with_reducible exact H | (rw [hy405]; exact H) | exact H
   have Ny405 := Aside0.mk hy405
   clear hy405
   have H' := Aside0.mk H
   clear H
   go_wp2_with (first | ((with_reducible refine gate_builtin (b := .append) (xs := #[.tmp 14, .tmp 15]) rfl ?_); at_builtin; refine Kd.R_append (Kd.int .i64) (w0 := w) w.heap.size rfl (.tmp 14) (.tmp 15) 22 3 (.int .i64 0) 8 rfl Try.underlying22 info3 rfl (by decide) (by omega) u3 x3_1 4398046511104 [.int .i64 4398046511104] (fun _ => True) (fun _ => False) rfl rfl ?aP (fun _ hk => hk.elim) ?aF ?aO ?aB ?aS ?aL ?_; (case aP => exact rfl); (case aB => exact HB_); (case aF => exact (fun _ _ => trivial)); (case aO => exact (rd_ HO_3.out)); (case aS => exact (below_size HB_)); (case aL => have := LMc4.out; omega); intro v406 w5 ho hb hg hat; rw [← Ny405.out] at ho; have n_ := a_ (Aside0.mk (blk_grown (g := gb404) (o := .cells #[.int .i64 0, .slice none 0 0] 24 (0, 0)) (bk_ BK404.out) hg (Kd.R_ne HO_3.out BK404.out (by decide)))) (a_ (Aside0.mk hb) (Aside0.mk ho)); clear BK404 HB HO_3; obtain ⟨BK404, HB, HO407⟩ := n_; clear ho hb hg hat))
   go_roundg k1
   case measure => have := HK1.out; omega
   case rel => exact ⟨(y405), (wrap64 (x4_1 + 1)), (by first | rfl | (simp; done) | (simp [*]; done)), H', ⟨by have := HK1.out; omega⟩, ⟨by (with_reducible repeat (first | apply Kd.R_alloc | apply Kd.R_drewN | apply Kd.R_drew)); exact HO407.out⟩, ⟨by (with_reducible repeat (first | refine blk_drewN ?_ _ | refine blk_drew ?_ | refine blk_alloc ?_ _)); exact BK404.out⟩, ⟨HB_⟩⟩
def warrantorref09_Box.l0 : Nat → List (S39) → Int → Int → List Int → Option (Int × List Int)
 | 0, _, _, _, _ => none
 | k + 1, x0, x4, x418000, x418001 => if x4 < (x0.length : Int) then (if 0 ≤ x4 then ((warrantorref07_Plain.f k ((rd_T39 x0 x4).f0) ((rd_T39 x0 x4).f1)).bind fun bt419 => ((warrantorref09_Limit.f k x418000 x418001 (wrap64 (x4 + 1)) 0 bt419.2).bind fun bt422 => ((warrantorref09_Limit.f k bt422.1 bt422.2 0 (wrap64 (x4 + 1)) (wrap64 (-bt419.1))).bind fun bt426 => (warrantorref09_Box.l0 k x0 (wrap64 (x4 + 1)) bt426.1 bt426.2)))) else (none)) else (some (x418000, x418001))
def warrantorref09_Box.f (k : Nat) (l0 : List (S39)) : Option (Int × List Int) := (warrantorref08_All.f k (l0.length : Int)).bind fun bt413 => (warrantorref09_Box.l0 k l0 0 bt413.1 bt413.2)
theorem warrantorref09_Box.mono_l : ∀ k, (∀ y0 y1 y2 y3, LeO (warrantorref09_Box.l0 k y0 y1 y2 y3) (warrantorref09_Box.l0 (k + 1) y0 y1 y2 y3))
 | 0 => fun _ _ _ _ r h => by simp [warrantorref09_Box.l0] at h
 | k + 1 => by
  have ih0 := warrantorref09_Box.mono_l k
  · intro y0 y1 y2 y3
    unfold warrantorref09_Box.l0
    repeat' first
    | (with_reducible exact ih0 _ _ _ _)
    | (with_reducible exact warrantorref07_Plain.mono _ _ _)
    | (with_reducible exact warrantorref08_All.mono _ _)
    | (with_reducible exact warrantorref09_Limit.mono _ _ _ _ _ _)
    | (with_reducible exact LeO.refl _)
    | (with_reducible exact LeO.none _)
    | (with_reducible refine LeO.ite ?_ ?_)
    | (with_reducible refine LeO.bind ?_ (fun _ => ?_))
    | exact ih0 _ _ _ _
    | exact warrantorref07_Plain.mono _ _ _
    | exact warrantorref08_All.mono _ _
    | exact warrantorref09_Limit.mono _ _ _ _ _ _
    | exact LeO.none _
    | refine LeO.ite ?_ ?_
    | refine LeO.bind ?_ (fun _ => ?_)
theorem warrantorref09_Box.mono : ∀ a0 k, LeO (warrantorref09_Box.f k a0) (warrantorref09_Box.f (k + 1) a0) := by
 intro a0 k
 have ih0 := warrantorref09_Box.mono_l k
 unfold warrantorref09_Box.f
 repeat' first
  | (with_reducible exact ih0 _ _ _ _)
  | (with_reducible exact warrantorref07_Plain.mono _ _ _)
  | (with_reducible exact warrantorref08_All.mono _ _)
  | (with_reducible exact warrantorref09_Limit.mono _ _ _ _ _ _)
  | (with_reducible exact LeO.refl _)
  | (with_reducible exact LeO.none _)
  | (with_reducible refine LeO.ite ?_ ?_)
  | (with_reducible refine LeO.bind ?_ (fun _ => ?_))
  | exact ih0 _ _ _ _
  | exact warrantorref07_Plain.mono _ _ _
  | exact warrantorref08_All.mono _ _
  | exact warrantorref09_Limit.mono _ _ _ _ _ _
  | exact LeO.none _
  | refine LeO.ite ?_ ?_
  | refine LeO.bind ?_ (fun _ => ?_)
def warrantorref09_Box.T6 : Bool × List (List Nat × List Nat) := (true, [([], []), ([], []), ([1], [1]), ([], []), ([3], [3]), ([0, 2, 4], [0, 2, 4]), ([], []), ([6], [6]), ([], []), ([8], [8]), ([9], [9]), ([5, 7, 10, 5], [5, 7, 10]), ([11, 11, 0, 1, 2, 3, 4, 5, 6, 7, 8, 9, 10, 11], [11])])
def warrantorref09_Box.B6 : List Nat := [0, 0, 2, 0, 8, 31, 0, 64, 0, 256, 768, 2047, 4095]
theorem warrantorref09_Box.tab6 : rtab .any (opsOf Try.f51 6) = warrantorref09_Box.T6 := by kernel_rfl
theorem warrantorref09_Box.bits6 : waitsOk warrantorref09_Box.T6.2 warrantorref09_Box.B6 = true := by kernel_rfl
set_option maxHeartbeats 8000000 in
set_option maxRecDepth 100000 in
theorem warrantorref09_Box.calls (k : Nat) (A0 : Option Addr) (c0 : Nat) (l0 : List (S39)) (r1 : Int) (r2 : List Int) (w : World) (hr0 : Kd.C k39 w A0 l0.length l0) (hc0 : l0.length ≤ c0) (h : warrantorref09_Box.f k l0 = some (r1, r2)) :
  Calls Try.prog 51 #[.slice A0 l0.length c0] w fun e w' => ∃ v1_ : Value, e = .returned (.agg #[.int .i64 r1, v1_]) ∧ Kd.V (Kd.int .i64) 3 w' w.heap.size (fun k_ => (w.heap.size ≤ k_)) v1_ r2 ∧ Below w.heap.size w w' := by
 have hu24 := Try.underlying24
 have hu39 := Try.underlying39
 have HR0 := Aside0.mk hr0
 have HC0 := Aside0.mk hc0
 clear hr0 hc0
 have HB := Aside0.mk (Below.refl w.heap.size w)
 have H : ((warrantorref08_All.f k (l0.length : Int)).bind fun bt413 => (warrantorref09_Box.l0 k l0 0 bt413.1 bt413.2)) = some (r1, r2) := h
 clear h
 replace H := Option.bind_eq_some_iff.mp H
 obtain ⟨⟨t413, t414⟩, A20, H⟩ := H
 replace H : (warrantorref09_Box.l0 k l0 0 t413 t414) = some (r1, r2) := H
 have A2 := Aside0.mk A20
 clear A20
 have H' := Aside0.mk H
 clear H
 go_enter Try.func51, Try.ntmps51
 go_wp2_with (first | ((with_reducible refine gate_dst (N := 2) rfl ?_); refine bx_ (N := 2) (cs := #[.int .i64 0, .slice none 0 0]) (t := 24) ?_; intro gb412 hg w3 hbox hb; have n_ := a_ (bs_ HB hb) (a_ (Aside0.mk hbox) (a_ (gs_ HB hg) (gs_ HB hg))); clear HB; obtain ⟨HB, BK412, GW412, GE412⟩ := n_; clear hb hbox hg) | ((with_reducible refine gate_callee (f := 90) rfl ?_); refine goesL_ (some 8) rfl rfl Try.func90 (by kernel_rfl) rfl #[.int .i64 (l0.length : Int)] rfl MP_ ?_; (with_reducible refine (warrantorref08_All.calls k (l0.length : Int) t413 t414 _ A2.out).mono ?_); rintro e w4 ⟨v415, rfl, ho0, hb⟩; refine ⟨_, rfl, ?_⟩; have n_ := a_ (Aside0.mk (Kd.R_lower (Kd.R_newM (M := fun k_ => (w.heap.size ≤ k_)) ho0 (below_size HB_) (fun k_ h_ => h_)) (below_size HB_))) (a_ (bb_ BK412 hb) (bs_ HB hb)); clear BK412 HB; obtain ⟨HO416, BK412, HB⟩ := n_; (try clear hb); (try clear hb2); (try clear hk); (try clear hi); (try clear ho0)) | ((with_reducible refine gate_dst (N := 3) rfl ?_); refine bx_ (N := 3) (cs := #[.int .i64 0, .slice none 0 0]) (t := 24) ?_; intro gb417 hg w5 hbox hb; have n_ := a_ (rb_ HO416 hb) (a_ (bb_ BK412 hb) (a_ (bs_ HB hb) (a_ (Aside0.mk hbox) (a_ (gs_ HB hg) (a_ (gs_ HB hg) (a_ (nl_ BK412 hg) (ng_ BK412 hg))))))); clear HO416 BK412 HB; obtain ⟨HO416, BK412, HB, BK417, GW417, GE417, NB412_417, NB417_412⟩ := n_; clear hb hbox hg; have hnb6 := NB417_412.out; have hnc6 := NB412_417.out; obtain ⟨hcz7_0, hcz7_1, hfz7_0, hfz7_1⟩ := cz2_ BK417; obtain ⟨Ao8, co8, eo8⟩ := Kd.R_slice HO416.out; subst eo8))
 go_loopg [4] k (fun kq v4 w' => ∃ (x4_1 : Int) (x418000_1 : Int) (x418001_1 : List Int) (u418001 : Value), v4 = .int .i64 x4_1 ∧ Aside0 (warrantorref09_Box.l0 kq l0 x4_1 x418000_1 x418001_1 = some (r1, r2)) ∧ Aside0 (kq ≤ k) ∧ Aside0 (Kd.V (Kd.int .i64) 3 w' w.heap.size (fun k_ => (w.heap.size ≤ k_) ∧ k_ ≠ gb412 ∧ k_ ≠ gb417) u418001 x418001_1) ∧ Aside0 (w'.heap[gb412]? = some (.cells #[.int .i64 0, (.slice none 0 0)] 24 (0, 0))) ∧ Aside0 (w'.heap[gb417]? = some (.cells #[.int .i64 x418000_1, u418001] 24 (0, 0))) ∧ Aside0 (Below w.heap.size w w'))
 case atStart => exact ⟨(0), (t413), (t414), (.slice Ao8 t414.length co8), (by first | rfl | (simp; done) | (simp [*]; done)), H', ⟨Nat.le_refl _⟩, ⟨Kd.R_V (by (with_reducible repeat (first | apply Kd.R_alloc | apply Kd.R_drewN | apply Kd.R_drew)); exact Kd.R_mono (Kd.R_far (p := ⟨gb417, 1, none⟩) (Kd.R_far (p := ⟨gb417, 0, none⟩) (Kd.R_types (Kd.R_types (Kd.R_types HO416.out BK412.out (by decide)) BK417.out (by decide)) BK417.out (by decide)) (fun _ hk => hk.2) (.int .i64 t413)) (fun _ hk => hk.2) (.slice Ao8 t414.length co8)) (fun _ hk => ⟨hk.1.1.1.1, ⟨hk.1.1.2, hk.1.2⟩⟩))⟩, ⟨by (with_reducible repeat (first | refine blk_drewN ?_ _ | refine blk_drew ?_ | refine blk_alloc ?_ _)); refine blk_far ?_ NB412_417.out _; (with_reducible repeat (first | refine blk_drewN ?_ _ | refine blk_drew ?_ | refine blk_alloc ?_ _)); refine blk_far ?_ NB412_417.out _; (with_reducible repeat (first | refine blk_drewN ?_ _ | refine blk_drew ?_ | refine blk_alloc ?_ _)); exact BK412.out⟩, ⟨by (with_reducible repeat (first | refine blk_drewN ?_ _ | refine blk_drew ?_ | refine blk_alloc ?_ _)); refine blk_put (cs := #[.int .i64 t413, .slice none 0 0]) ?_ 1 _ rfl; (with_reducible repeat (first | refine blk_drewN ?_ _ | refine blk_drew ?_ | refine blk_alloc ?_ _)); refine blk_put (cs := #[.int .i64 0, .slice none 0 0]) ?_ 0 _ rfl; (with_reducible repeat (first | refine blk_drewN ?_ _ | refine blk_drew ?_ | refine blk_alloc ?_ _)); exact BK417.out⟩, ⟨HB_⟩⟩
 case round =>
  clear H'
  try clear p2
  try clear c5
  try clear c6
  try clear hcz7_0
  try clear hcz7_1
  try clear hfz7_0
  try clear hfz7_1
  obtain ⟨x4_1, x418000_1, x418001_1, u418001, rfl, HA, HK1, HO_418001, BK412, BK417, HB⟩ := hrel
  cases gk with
  | zero => exact absurd HA.out (by simp [warrantorref09_Box.l0])
  | succ k1 =>
   have H := HA.out
   clear HA
   simp only [warrantorref09_Box.l0] at H
   by_cases c9 : x4_1 < (l0.length : Int)
   rotate_left
   · rw [if_neg c9] at H
     have c9b0 : decide (x4_1 < (l0.length : Int)) = false := decide_eq_false c9
     clear c9
     simp only [Option.some.injEq, Prod.mk.injEq] at H
     obtain ⟨rfl, rfl⟩ := H
     have hnb28 := NB417_412.out
     have hnc28 := NB412_417.out
     obtain ⟨hcz29_0, hcz29_1, hfz29_0, hfz29_1⟩ := cz2_ BK417
     obtain ⟨hcz30_0, hcz30_1, hfz30_0, hfz30_1⟩ := cz2_ BK412
     obtain ⟨Ao31, co31, eo31⟩ := Kd.V_slice HO_418001.out
     subst eo31
     go_wp2
     refine bodyPost_ret (results_cell_row rfl _ _ gb412 24 #[.int .i64 x418000_1, .slice Ao31 x418001_1.length co31] (0, 0) _ rfl (bk2_ BK412.out) Try.underlying24 rfl (by kernel_rfl)) rfl ?_
     exact ⟨_, by first | rfl | (simp [errW_none, errW_some] <;> rfl) | (simp [*, errW_none, errW_some] <;> rfl), by (with_reducible repeat (first | apply Kd.V_alloc | apply Kd.V_drewN | apply Kd.V_drew)); exact Kd.V_mono (Kd.V_far (p := ⟨gb412, 1, none⟩) (Kd.V_far (p := ⟨gb412, 0, none⟩) (Kd.V_mono HO_418001.out (fun k_ hk => (⟨hk, hk.2.1⟩ : _ ∧ k_ ≠ gb412))) (fun _ hk => hk.2) (.int .i64 x418000_1)) (fun _ hk => hk.2) (.slice Ao31 x418001_1.length co31)) (fun _ hk => hk.1.1), HB_⟩
   rw [if_pos c9] at H
   have c9b0 : decide (x4_1 < (l0.length : Int)) = true := decide_eq_true c9
   clear c9
   replace H := yes_ H
   obtain ⟨c10, H⟩ := H
   have c10b0 : decide (0 ≤ x4_1) = true := decide_eq_true c10
   clear c10
   replace H := Option.bind_eq_some_iff.mp H
   obtain ⟨⟨t419, t420⟩, A110, H⟩ := H
   replace H : ((warrantorref09_Limit.f k1 x418000_1 x418001_1 (wrap64 (x4_1 + 1)) 0 t420).bind fun bt422 => ((warrantorref09_Limit.f k1 bt422.1 bt422.2 0 (wrap64 (x4_1 + 1)) (wrap64 (-t419))).bind fun bt426 => (warrantorref09_Box.l0 k1 l0 (wrap64 (x4_1 + 1)) bt426.1 bt426.2))) = some (r1, r2) := H
   have A11 := Aside0.mk A110
   clear A110
   replace H := Option.bind_eq_some_iff.mp H
   obtain ⟨⟨t422, t423⟩, A120, H⟩ := H
   replace H : ((warrantorref09_Limit.f k1 t422 t423 0 (wrap64 (x4_1 + 1)) (wrap64 (-t419))).bind fun bt426 => (warrantorref09_Box.l0 k1 l0 (wrap64 (x4_1 + 1)) bt426.1 bt426.2)) = some (r1, r2) := H
   have A12 := Aside0.mk A120
   clear A120
   replace H := Option.bind_eq_some_iff.mp H
   obtain ⟨⟨t426, t427⟩, A130, H⟩ := H
   replace H : (warrantorref09_Box.l0 k1 l0 (wrap64 (x4_1 + 1)) t426 t427) = some (r1, r2) := H
   have A13 := Aside0.mk A130
   clear A130
   have H' := Aside0.mk H
   clear H
   have p418 : 0 ≤ (x4_1 : Int) := of_decide_eq_true (by first | (with_reducible assumption) | assumption)
   have q418 : x4_1 < (l0.length : Int) := of_decide_eq_true (by first | (with_reducible assumption) | assumption)
   obtain ⟨ad418, e418, hx418_0, hx418_1⟩ := at_T39 HR0.out x4_1 p418 q418
   cases e418
   first | (replace hx418_0 := (HB.out.cell (World.block_lt_of_cell? w _ hx418_0)).trans hx418_0) | skip
   first | (replace hx418_1 := (HB.out.cell (World.block_lt_of_cell? w _ hx418_1)).trans hx418_1) | skip
   replace p418 := eq_true p418
   replace q418 := eq_true q418
   try go_wp2_with (first | ((with_reducible refine gate_callee (f := 53) rfl ?_); refine goesL_ (some 19) rfl rfl Try.func53 (by kernel_rfl) rfl #[.agg #[.int .i64 ((rd_T39 l0 x4_1).f0), .int .i64 ((rd_T39 l0 x4_1).f1)]] rfl MP_ ?_; (with_reducible refine (warrantorref07_Plain.calls k1 ((rd_T39 l0 x4_1).f0) ((rd_T39 l0 x4_1).f1) t419 t420 _ A11.out).mono ?_); rintro e w14 ⟨rfl, hb⟩; refine ⟨_, rfl, ?_⟩; have n_ := a_ (Aside0.mk (Kd.V_below (by (with_reducible repeat (first | apply Kd.V_alloc | apply Kd.V_drewN | apply Kd.V_drew)); exact HO_418001.out) hb)) (a_ (bb_ BK412 hb) (a_ (bb_ BK417 hb) (bs_ HB hb))); clear HO_418001 BK412 BK417 HB; obtain ⟨HO_418001, BK412, BK417, HB⟩ := n_; (try clear hb); (try clear hb2); (try clear hk); (try clear hi)) | ((with_reducible refine gate_dst (N := 5) rfl ?_); refine bx_ (N := 5) (cs := #[.int .i64 0, .int .i64 0]) (t := 39) ?_; intro gb421 hg w15 hbox hb; have n_ := a_ (Aside0.mk (Kd.V_below (Kd.V_elderB (by (with_reducible repeat (first | apply Kd.V_alloc | apply Kd.V_drewN | apply Kd.V_drew)); exact HO_418001.out) gb421 (Nat.le_of_eq hg.symm)) hb)) (a_ (bb_ BK412 hb) (a_ (bb_ BK417 hb) (a_ (bs_ HB hb) (a_ (Aside0.mk hbox) (a_ (gs_ HB hg) (a_ (gs_ HB hg) (a_ (nl_ BK412 hg) (a_ (ng_ BK412 hg) (a_ (nl_ BK417 hg) (ng_ BK417 hg)))))))))); clear HO_418001 BK412 BK417 HB; obtain ⟨HO_418001, BK412, BK417, HB, BK421, GW421, GE421, NB412_421, NB421_412, NB417_421, NB421_417⟩ := n_; clear hb hbox hg; have hnb16 := NB421_412.out; have hnc16 := NB412_421.out; have hnb17 := NB421_417.out; have hnc17 := NB417_421.out; obtain ⟨hcz18_0, hcz18_1, hfz18_0, hfz18_1⟩ := cz2_ BK421))
   have n0_ : Aside0 (Kd.V (Kd.int .i64) 3 ((w15.setCell ⟨gb421, 0, none⟩ (.int .i64 t419)).setCell ⟨gb421, 1, none⟩ (.int .i64 t420)) w.heap.size (fun k_ => (w.heap.size ≤ k_) ∧ k_ ≠ gb412 ∧ k_ ≠ gb417 ∧ k_ ≠ gb421) u418001 x418001_1) := ⟨by (with_reducible repeat (first | apply Kd.V_alloc | apply Kd.V_drewN | apply Kd.V_drew)); exact Kd.V_mono (Kd.V_far (p := ⟨gb421, 1, none⟩) (Kd.V_far (p := ⟨gb421, 0, none⟩) (Kd.V_mono HO_418001.out (fun k_ hk => (⟨hk, hk.2⟩ : _ ∧ k_ ≠ gb421))) (fun _ hk => hk.2) (.int .i64 t419)) (fun _ hk => hk.2) (.int .i64 t420)) (fun _ hk => ⟨hk.1.1.1, ⟨hk.1.1.2.1, ⟨hk.1.1.2.2, hk.1.2⟩⟩⟩)⟩
   have n1_ : Aside0 (((w15.setCell ⟨gb421, 0, none⟩ (.int .i64 t419)).setCell ⟨gb421, 1, none⟩ (.int .i64 t420)).heap[gb412]? = some (.cells #[.int .i64 0, .slice none 0 0] 24 (0, 0))) := ⟨by (with_reducible repeat (first | refine blk_drewN ?_ _ | refine blk_drew ?_ | refine blk_alloc ?_ _)); refine blk_far ?_ NB412_421.out _; (with_reducible repeat (first | refine blk_drewN ?_ _ | refine blk_drew ?_ | refine blk_alloc ?_ _)); refine blk_far ?_ NB412_421.out _; (with_reducible repeat (first | refine blk_drewN ?_ _ | refine blk_drew ?_ | refine blk_alloc ?_ _)); exact BK412.out⟩
   have n2_ : Aside0 (((w15.setCell ⟨gb421, 0, none⟩ (.int .i64 t419)).setCell ⟨gb421, 1, none⟩ (.int .i64 t420)).heap[gb417]? = some (.cells #[.int .i64 x418000_1, u418001] 24 (0, 0))) := ⟨by (with_reducible repeat (first | refine blk_drewN ?_ _ | refine blk_drew ?_ | refine blk_alloc ?_ _)); refine blk_far ?_ NB417_421.out _; (with_reducible repeat (first | refine blk_drewN ?_ _ | refine blk_drew ?_ | refine blk_alloc ?_ _)); refine blk_far ?_ NB417_421.out _; (with_reducible repeat (first | refine blk_drewN ?_ _ | refine blk_drew ?_ | refine blk_alloc ?_ _)); exact BK417.out⟩
   have n3_ : Aside0 (((w15.setCell ⟨gb421, 0, none⟩ (.int .i64 t419)).setCell ⟨gb421, 1, none⟩ (.int .i64 t420)).heap[gb421]? = some (.cells #[.int .i64 t419, .int .i64 t420] 39 (0, 0))) := ⟨by (with_reducible repeat (first | refine blk_drewN ?_ _ | refine blk_drew ?_ | refine blk_alloc ?_ _)); refine blk_put (cs := #[.int .i64 t419, .int .i64 0]) ?_ 1 _ rfl; (with_reducible repeat (first | refine blk_drewN ?_ _ | refine blk_drew ?_ | refine blk_alloc ?_ _)); refine blk_put (cs := #[.int .i64 0, .int .i64 0]) ?_ 0 _ rfl; (with_reducible repeat (first | refine blk_drewN ?_ _ | refine blk_drew ?_ | refine blk_alloc ?_ _)); exact BK421.out⟩
   have n4_ : Aside0 (Below w.heap.size w ((w15.setCell ⟨gb421, 0, none⟩ (.int .i64 t419)).setCell ⟨gb421, 1, none⟩ (.int .i64 t420))) := ⟨HB_⟩
   (try clear HO_418001)
   (try clear BK412)
   (try clear BK417)
   (try clear BK421)
   (try clear HB)
   generalize ((w15.setCell ⟨gb421, 0, none⟩ (.int .i64 t419)).setCell ⟨gb421, 1, none⟩ (.int .i64 t420)) = w19 at n0_ n1_ n2_ n3_ n4_ ⊢
   have HO_418001 := n0_
   have BK412 := n1_
   have BK417 := n2_
   have BK421 := n3_
   have HB := n4_
   clear n0_ n1_ n2_ n3_ n4_
   have n_ := a_ (Aside0.mk (Kd.V_drew HO_418001.out)) (a_ (Aside0.mk (blk_drew BK412.out)) (a_ (Aside0.mk (blk_drew BK417.out)) (a_ (Aside0.mk (blk_drew BK421.out)) (Aside0.mk (below_drew1 HB.out)))))
   clear HO_418001 BK412 BK417 BK421 HB
   obtain ⟨HO_418001, BK412, BK417, BK421, HB⟩ := n_
   obtain ⟨Ao21, co21, eo21⟩ := Kd.V_slice HO_418001.out
   (first | subst eo21 | (injection eo21 with f1_ f2_ f3_; have f4_ := f1_.symm; have f5_ := f3_.symm; clear f1_ f2_ f3_; subst f4_; subst f5_))
   refine start_ (n := 13) (S := fun w' => w'.cell? ⟨gb417, 0, none⟩ = some (.int .i64 x418000_1) ∧ w'.cell? ⟨gb417, 1, none⟩ = some (.slice Ao21 x418001_1.length co21) ∧ w'.cell? ⟨gb421, 0, none⟩ = some (.int .i64 t419) ∧ w'.cell? ⟨gb421, 1, none⟩ = some (.int .i64 t420)) (ds := [12]) #[false, false, false, false, false, false, false, false, false, false, false, false, false] (by kernel_rfl) rfl rfl ⟨(blk_cell BK417.out 0).trans rfl, (blk_cell BK417.out 1).trans rfl, (blk_cell BK421.out 0).trans rfl, (blk_cell BK421.out 1).trans rfl⟩ (fun hHeld => ?_); refine with_tabW warrantorref09_Box.tab6 warrantorref09_Box.bits6 (fun HT_ HW_ => ?_)
   generalize w19.drew = w20 at HO_418001 BK412 BK417 BK421 HB hHeld ⊢
   refine pu_ 1 (some 21) ?_
   refine pu_ 2 (some 22) ?_
   refine pu_ 3 (some 23) ?_
   refine pu_ 6 (some 26) ?_
   refine pu_ 7 (some 27) ?_
   refine pu_ 8 (some 28) ?_
   refine take_ (i := 0) (N := some 20) (v := ?_) (a' := ?_) #[true, true, true, true, false, false, true, true, true, false, false, false, false] rfl rfl (take_ofW HT_.out HW_.out (by kernel_rfl)) (fun _ _ _ h => h) (Or.inl ⟨by rfl, ?_⟩) hHeld ?_ ?_
   rotate_left
   · rintro w' ⟨s0, s1, s2, s3⟩
     go_simp
     with_reducible rfl
   rotate_left
   · exact AP_
   refine take_ (i := 4) (N := some 24) (v := ?_) (a' := ?_) #[true, true, true, true, true, false, true, true, true, false, false, false, false] rfl rfl (take_ofW HT_.out HW_.out (by kernel_rfl)) (fun _ _ _ h => h) (Or.inl ⟨by rfl, ?_⟩) hHeld ?_ ?_
   rotate_left
   · rintro w' ⟨s0, s1, s2, s3⟩
     go_simp
     with_reducible rfl
   rotate_left
   · exact AP_
   refine take_ (i := 9) (N := some 29) (v := ?_) (a' := ?_) #[true, true, true, true, true, false, true, true, true, true, false, false, false] rfl rfl (take_ofW HT_.out HW_.out (by kernel_rfl)) (fun _ _ _ h => h) (Or.inl ⟨by rfl, ?_⟩) hHeld ?_ ?_
   rotate_left
   · rintro w' ⟨s0, s1, s2, s3⟩
     go_simp
     with_reducible rfl
   rotate_left
   · exact AP_
   refine pu_ 10 (some 30) ?_
   refine on_ 5 (some 25) (fun K hK => ?_)
   refine goes_ Try.func32 (by kernel_rfl) rfl #[.agg #[.int .i64 x418000_1, .slice Ao21 x418001_1.length co21], .int .i64 (wrap64 (x4_1 + 1)), .int .i64 0, .int .i64 t420] (by rfl) rfl rfl MP_ ?_
   with_reducible refine (warrantorref09_Limit.calls k1 x418000_1 (fun k_ => ((w.heap.size ≤ k_) ∧ (k_ ≠ gb412 ∧ (k_ ≠ gb417 ∧ k_ ≠ gb421)))) _ _ x418001_1 (wrap64 (x4_1 + 1)) 0 t420 t422 t423 _ ?side1 A12.out).mono ?_
   (case side1 => exact HO_418001.out)
   rintro e w22 ⟨v424, rfl, ho0, hb⟩
   refine ⟨_, rfl, ?_⟩
   have n_ := a_ (Aside0.mk (Kd.V_below (by (with_reducible repeat (first | apply Kd.V_alloc | apply Kd.V_drewN | apply Kd.V_drew)); exact HO_418001.out) hb)) (a_ (Aside0.mk (Kd.V_lower (Kd.V_mono (ok' := fun k_ => (w.heap.size ≤ k_) ∧ k_ ≠ gb412 ∧ k_ ≠ gb417 ∧ k_ ≠ gb421) ho0 (fun k_ hk_ => ⟨Or.elim hk_ (fun hs_ => hs_.1) (fun hn_ => (Nat.le_trans (below_size HB_) hn_)), Or.elim hk_ (fun hs_ => hs_.2.1) (fun hn_ => (Kd.freshB (g := gb412) (o := .cells #[.int .i64 0, .slice none 0 0] 24 (0, 0)) (bk_ BK412.out) k_ hn_)), Or.elim hk_ (fun hs_ => hs_.2.2.1) (fun hn_ => (Kd.freshB (g := gb417) (o := .cells #[.int .i64 x418000_1, .slice Ao21 x418001_1.length co21] 24 (0, 0)) (bk_ BK417.out) k_ hn_)), Or.elim hk_ (fun hs_ => hs_.2.2.2) (fun hn_ => (Kd.freshB (g := gb421) (o := .cells #[.int .i64 t419, .int .i64 t420] 39 (0, 0)) (bk_ BK421.out) k_ hn_))⟩)) (below_size HB_))) (a_ (bb_ BK412 hb) (a_ (bb_ BK417 hb) (a_ (bb_ BK421 hb) (bs_ HB hb)))))
   clear HO_418001 BK412 BK417 BK421 HB
   obtain ⟨HO_418001, HO425, BK412, BK417, BK421, HB⟩ := n_
   (try clear hb)
   (try clear hb2)
   (try clear hk)
   (try clear hi)
   (try clear ho0)
   obtain ⟨Ao23, co23, eo23⟩ := Kd.V_slice HO425.out
   (first | subst eo23 | (injection eo23 with f1_ f2_ f3_; have f4_ := f1_.symm; have f5_ := f3_.symm; clear f1_ f2_ f3_; subst f4_; subst f5_))
   refine hK.out _ _ ⟨(blk_cell BK417.out 0).trans rfl, (blk_cell BK417.out 1).trans rfl, (blk_cell BK421.out 0).trans rfl, (blk_cell BK421.out 1).trans rfl⟩ (fun hHeld => ?_)
   clear hK K
   refine nm_ ?_
   refine on_ 11 (some 31) (fun K hK => ?_)
   refine goes_ Try.func32 (by kernel_rfl) rfl #[.agg #[.int .i64 t422, .slice Ao23 t423.length co23], .int .i64 0, .int .i64 (wrap64 (x4_1 + 1)), .int .i64 (wrap64 (-t419))] (by rfl) rfl rfl MP_ ?_
   with_reducible refine (warrantorref09_Limit.calls k1 t422 (fun k_ => ((w.heap.size ≤ k_) ∧ (k_ ≠ gb412 ∧ (k_ ≠ gb417 ∧ k_ ≠ gb421)))) _ _ t423 0 (wrap64 (x4_1 + 1)) (wrap64 (-t419)) t426 t427 _ ?side1 A13.out).mono ?_
   (case side1 => exact HO425.out)
   rintro e w24 ⟨v428, rfl, ho0, hb⟩
   refine ⟨_, rfl, ?_⟩
   have n_ := a_ (Aside0.mk (Kd.V_below (by (with_reducible repeat (first | apply Kd.V_alloc | apply Kd.V_drewN | apply Kd.V_drew)); exact HO_418001.out) hb)) (a_ (Aside0.mk (Kd.V_below (by (with_reducible repeat (first | apply Kd.V_alloc | apply Kd.V_drewN | apply Kd.V_drew)); exact HO425.out) hb)) (a_ (Aside0.mk (Kd.V_lower (Kd.V_mono (ok' := fun k_ => (w.heap.size ≤ k_) ∧ k_ ≠ gb412 ∧ k_ ≠ gb417 ∧ k_ ≠ gb421) ho0 (fun k_ hk_ => ⟨Or.elim hk_ (fun hs_ => hs_.1) (fun hn_ => (Nat.le_trans (below_size HB_) hn_)), Or.elim hk_ (fun hs_ => hs_.2.1) (fun hn_ => (Kd.freshB (g := gb412) (o := .cells #[.int .i64 0, .slice none 0 0] 24 (0, 0)) (bk_ BK412.out) k_ hn_)), Or.elim hk_ (fun hs_ => hs_.2.2.1) (fun hn_ => (Kd.freshB (g := gb417) (o := .cells #[.int .i64 x418000_1, .slice Ao21 x418001_1.length co21] 24 (0, 0)) (bk_ BK417.out) k_ hn_)), Or.elim hk_ (fun hs_ => hs_.2.2.2) (fun hn_ => (Kd.freshB (g := gb421) (o := .cells #[.int .i64 t419, .int .i64 t420] 39 (0, 0)) (bk_ BK421.out) k_ hn_))⟩)) (below_size HB_))) (a_ (bb_ BK412 hb) (a_ (bb_ BK417 hb) (a_ (bb_ BK421 hb) (bs_ HB hb))))))
   clear HO_418001 HO425 BK412 BK417 BK421 HB
   obtain ⟨HO_418001, HO425, HO429, BK412, BK417, BK421, HB⟩ := n_
   (try clear hb)
   (try clear hb2)
   (try clear hk)
   (try clear hi)
   (try clear ho0)
   obtain ⟨Ao26, co26, eo26⟩ := Kd.V_slice HO429.out
   (first | subst eo26 | (injection eo26 with f1_ f2_ f3_; have f4_ := f1_.symm; have f5_ := f3_.symm; clear f1_ f2_ f3_; subst f4_; subst f5_))
   refine hK.out _ _ ⟨(blk_cell BK417.out 0).trans rfl, (blk_cell BK417.out 1).trans rfl, (blk_cell BK421.out 0).trans rfl, (blk_cell BK421.out 1).trans rfl⟩ (fun hHeld => ?_)
   clear hK K
   refine nm_ ?_
   refine last_ (i := 12) (N := none) #[true, true, true, true, true, true, true, true, true, true, true, true, true] rfl rfl (one_of HT_.out (by kernel_rfl)) (by decide) (fun K hK => ?_)
   have hs25 : w24.cell? ⟨gb417, 0, none⟩ = some (.int .i64 x418000_1) := (blk_cell BK417.out 0).trans rfl
   have hfs25 := blk_frozen BK417.out 0
   have hns25_0 := NB412_417.out
   have hns25_2 := NB421_417.out
   have hms25_0 := NB417_412.out
   have hms25_2 := NB417_421.out
   have hs27 : w24.cell? ⟨gb417, 1, none⟩ = some (.slice Ao21 x418001_1.length co21) := (blk_cell BK417.out 1).trans rfl
   have hfs27 := blk_frozen BK417.out 1
   have hns27_0 := NB412_417.out
   have hns27_2 := NB421_417.out
   have hms27_0 := NB417_412.out
   have hms27_2 := NB417_421.out
   refine skip_ (w1 := ?_) (by rfl) rfl ?_ ?_
   rotate_left
   · go_simp
     rfl
   refine hK.out _ _ ?_
   clear hK K
   refine done_ (done_of HT_.out (by kernel_rfl)) ?_
   try go_wp2
   go_roundg k1
   case measure => have := HK1.out; omega
   case rel => exact ⟨(wrap64 (x4_1 + 1)), (t426), (t427), (.slice Ao26 t427.length co26), (by first | rfl | (simp; done) | (simp [*]; done)), H', ⟨by have := HK1.out; omega⟩, ⟨by (with_reducible repeat (first | apply Kd.V_alloc | apply Kd.V_drewN | apply Kd.V_drew)); exact Kd.V_mono (Kd.V_far (p := ⟨gb417, 1, none⟩) (Kd.V_far (p := ⟨gb417, 0, none⟩) (Kd.V_mono HO429.out (fun k_ hk => (⟨hk, hk.2.2.1⟩ : _ ∧ k_ ≠ gb417))) (fun _ hk => hk.2) (.int .i64 t426)) (fun _ hk => hk.2) (.slice Ao26 t427.length co26)) (fun _ hk => ⟨hk.1.1, ⟨hk.1.2.1, hk.1.2.2.1⟩⟩)⟩, ⟨by (with_reducible repeat (first | refine blk_drewN ?_ _ | refine blk_drew ?_ | refine blk_alloc ?_ _)); refine blk_far ?_ NB412_417.out _; (with_reducible repeat (first | refine blk_drewN ?_ _ | refine blk_drew ?_ | refine blk_alloc ?_ _)); refine blk_far ?_ NB412_417.out _; (with_reducible repeat (first | refine blk_drewN ?_ _ | refine blk_drew ?_ | refine blk_alloc ?_ _)); exact BK412.out⟩, ⟨by (with_reducible repeat (first | refine blk_drewN ?_ _ | refine blk_drew ?_ | refine blk_alloc ?_ _)); refine blk_put (cs := #[.int .i64 t426, .slice Ao21 x418001_1.length co21]) ?_ 1 _ rfl; (with_reducible repeat (first | refine blk_drewN ?_ _ | refine blk_drew ?_ | refine blk_alloc ?_ _)); refine blk_put (cs := #[.int .i64 x418000_1, .slice Ao21 x418001_1.length co21]) ?_ 0 _ rfl; (with_reducible repeat (first | refine blk_drewN ?_ _ | refine blk_drew ?_ | refine blk_alloc ?_ _)); exact BK417.out⟩, ⟨HB_⟩⟩
end Go.Proofs.Ytgeemdpflcefkaa.Y
