import Derived.Test.YtgeemdpflcefkaaYx0
import Derived.Test.YtgeemdpflcefkaaYx3
import Derived.Test.YtgeemdpflcefkaaYx12
namespace Go.Proofs.Ytgeemdpflcefkaa.Y
open Go.RowKit Go.Proofs.YtgeemdpflcefkaaW.PrintWords Go.Proofs.YtgeemdpflcefkaaW.PrintLast Go.Proofs.YtgeemdpflcefkaaW.PrintMore
attribute [local go_sem] max2_int min2_int max_two min_two max_three min_three max_four min_four   -- for this text's walks alone
set_option linter.unusedVariables false
set_option linter.unusedSimpArgs false
def zone_both_v0.j0 : Nat → Bool → Bool → Int → List Int → Int → List Int → Option (Int × List Int × Int)
 | 0, _, _, _, _, _, _ => none
 | k + 1, x2, x19, x172000, x172001, x173000, x173001 => if x19 = true then ((zone_mixed_v0.f k x172000 x172001 x173000 x173001).bind fun bt175 => (some (bt175.1, bt175.2, 0))) else (if x2 = true then (if (x172001.length : Int) = 0 then ((slices_Clone_int_int.f x173001).bind fun t179 => (some (x173000, t179, 0))) else ((slices_Clone_int_int.f x172001).bind fun t182 => (some (x172000, t182, 0)))) else ((zone_empty.f x172000 x172001).bind fun bt185 => (some (bt185.1, bt185.2, 0))))
def zone_both_v0.f (k : Nat) (a0_0 : Int) (l0_1 : List Int) (a1_0 : Int) (l1_1 : List Int) (a2 : Bool) : Option (Int × List Int × Int) := (zone_two.f k a0_0 l0_1 a1_0 l1_1).bind fun t174 => (if t174 = 0 then (if (l0_1.length : Int) > 0 then (zone_both_v0.j0 k a2 (decide ((l1_1.length : Int) > 0)) a0_0 l0_1 a1_0 l1_1) else (zone_both_v0.j0 k a2 false a0_0 l0_1 a1_0 l1_1)) else (some (0, ([] : List Int), t174)))
theorem zone_both_v0.mono_l : ∀ k, (∀ y0 y1 y2 y3 y4 y5, LeO (zone_both_v0.j0 k y0 y1 y2 y3 y4 y5) (zone_both_v0.j0 (k + 1) y0 y1 y2 y3 y4 y5))
 | 0 => fun _ _ _ _ _ _ r h => by simp [zone_both_v0.j0] at h
 | k + 1 => by
  have ih0 := zone_both_v0.mono_l k
  · intro y0 y1 y2 y3 y4 y5
    unfold zone_both_v0.j0
    repeat' first
    | (with_reducible exact ih0 _ _ _ _ _ _)
    | (with_reducible exact zone_mixed_v0.mono _ _ _ _ _)
    | (with_reducible exact zone_two.mono _ _ _ _ _)
    | (with_reducible exact LeO.refl _)
    | (with_reducible exact LeO.none _)
    | (with_reducible refine LeO.ite ?_ ?_)
    | (with_reducible refine LeO.bind ?_ (fun _ => ?_))
    | exact ih0 _ _ _ _ _ _
    | exact zone_mixed_v0.mono _ _ _ _ _
    | exact zone_two.mono _ _ _ _ _
    | exact LeO.none _
    | refine LeO.ite ?_ ?_
    | refine LeO.bind ?_ (fun _ => ?_)
theorem zone_both_v0.mono : ∀ a0 a1 a2 a3 a4 k, LeO (zone_both_v0.f k a0 a1 a2 a3 a4) (zone_both_v0.f (k + 1) a0 a1 a2 a3 a4) := by
 intro a0 a1 a2 a3 a4 k
 have ih0 := zone_both_v0.mono_l k
 unfold zone_both_v0.f
 repeat' first
  | (with_reducible exact ih0 _ _ _ _ _ _)
  | (with_reducible exact zone_mixed_v0.mono _ _ _ _ _)
  | (with_reducible exact zone_two.mono _ _ _ _ _)
  | (with_reducible exact LeO.refl _)
  | (with_reducible exact LeO.none _)
  | (with_reducible refine LeO.ite ?_ ?_)
  | (with_reducible refine LeO.bind ?_ (fun _ => ?_))
  | exact ih0 _ _ _ _ _ _
  | exact zone_mixed_v0.mono _ _ _ _ _
  | exact zone_two.mono _ _ _ _ _
  | exact LeO.none _
  | refine LeO.ite ?_ ?_
  | refine LeO.bind ?_ (fun _ => ?_)
def zone_both_v0.T10 : Bool × List (List Nat × List Nat) := (true, [([], []), ([0], [0]), ([], []), ([2], [2]), ([3], [3]), ([1, 4], [1, 4]), ([5, 4, 0, 1, 2, 3, 4, 5], [5]), ([6, 0, 1, 2, 3, 4, 5, 6], [])])
def zone_both_v0.B10 : List Nat := [0, 1, 0, 4, 12, 31, 63, 127]
theorem zone_both_v0.tab10 : rtab .any (opsOf Try.f77 10) = zone_both_v0.T10 := by kernel_rfl
theorem zone_both_v0.bits10 : waitsOk zone_both_v0.T10.2 zone_both_v0.B10 = true := by kernel_rfl
set_option maxHeartbeats 8000000 in
set_option maxRecDepth 100000 in
theorem zone_both_v0.calls (k : Nat) (a0_0 : Int) (A0_1 : Option Addr) (c0_1 : Nat) (l0_1 : List Int) (a1_0 : Int) (A1_1 : Option Addr) (c1_1 : Nat) (l1_1 : List Int) (a2 : Bool) (r1 : Int) (r2 : List Int) (r3 : Int) (w : World) (hr0_1 : Kd.C (Kd.int .i64) w A0_1 l0_1.length l0_1) (hc0_1 : l0_1.length ≤ c0_1) (hr1_1 : Kd.C (Kd.int .i64) w A1_1 l1_1.length l1_1) (hc1_1 : l1_1.length ≤ c1_1) (h : zone_both_v0.f k a0_0 l0_1 a1_0 l1_1 a2 = some (r1, r2, r3)) :
   Calls Try.prog 77 #[.agg #[.int .i64 a0_0, .slice A0_1 l0_1.length c0_1], .agg #[.int .i64 a1_0, .slice A1_1 l1_1.length c1_1], .bool a2, .func (.func 81) #[] #[]] w fun e w' => ∃ v1_ : Value, e = .returned (.tuple #[.agg #[.int .i64 r1, v1_], .int .i64 r3]) ∧ Kd.R (Kd.int .i64) 3 w' w.heap.size (fun _ => True) v1_ r2 ∧ Below w.heap.size w w' := by
 have hu24 := Try.underlying24
 have HR0_1 := Aside0.mk hr0_1
 have HC0_1 := Aside0.mk hc0_1
 clear hr0_1 hc0_1
 have HR1_1 := Aside0.mk hr1_1
 have HC1_1 := Aside0.mk hc1_1
 clear hr1_1 hc1_1
 have HB := Aside0.mk (Below.refl w.heap.size w)
 have H : ((zone_two.f k a0_0 l0_1 a1_0 l1_1).bind fun t174 => (if t174 = 0 then (if (l0_1.length : Int) > 0 then (zone_both_v0.j0 k a2 (decide ((l1_1.length : Int) > 0)) a0_0 l0_1 a1_0 l1_1) else (zone_both_v0.j0 k a2 false a0_0 l0_1 a1_0 l1_1)) else (some (0, ([] : List Int), t174)))) = some (r1, r2, r3) := h
 clear h
 replace H := Option.bind_eq_some_iff.mp H
 obtain ⟨t174, A40, H⟩ := H
 replace H : (if t174 = 0 then (if (l0_1.length : Int) > 0 then (zone_both_v0.j0 k a2 (decide ((l1_1.length : Int) > 0)) a0_0 l0_1 a1_0 l1_1) else (zone_both_v0.j0 k a2 false a0_0 l0_1 a1_0 l1_1)) else (some (0, ([] : List Int), t174))) = some (r1, r2, r3) := H
 have A4 := Aside0.mk A40
 clear A40
 by_cases c5 : t174 = 0
 rotate_left
 · rw [if_neg c5] at H
   have c5b0 : (t174 == 0) = false := beq_eq_false_iff_ne.mpr c5
   have c5b1 : (t174 != 0) = true := bne_iff_ne.mpr c5
   simp only [Option.some.injEq, Prod.mk.injEq] at H
   obtain ⟨rfl, rfl, rfl⟩ := H
   go_enter Try.func77, Try.ntmps77
   go_wp2_with (first | ((with_reducible refine gate_dst (N := 4) rfl ?_); (try (refine gate_guard (by rfl) ?_; dsimp only)); refine bx_ (N := 4) (cs := #[.int .i64 a0_0, .slice A0_1 l0_1.length c0_1]) (t := 24) ?_; intro gb171 hg w66 hbox hb; have n_ := a_ (bs_ HB hb) (a_ (Aside0.mk hbox) (a_ (gs_ HB hg) (gs_ HB hg))); clear HB; obtain ⟨HB, BK171, GW171, GE171⟩ := n_; clear hb hbox hg) | ((with_reducible refine gate_dst (N := 5) rfl ?_); (try (refine gate_guard (by rfl) ?_; dsimp only)); refine bx_ (N := 5) (cs := #[.int .i64 a1_0, .slice A1_1 l1_1.length c1_1]) (t := 24) ?_; intro gb172 hg w67 hbox hb; have n_ := a_ (bb_ BK171 hb) (a_ (bs_ HB hb) (a_ (Aside0.mk hbox) (a_ (gs_ HB hg) (a_ (gs_ HB hg) (a_ (nl_ BK171 hg) (ng_ BK171 hg)))))); clear BK171 HB; obtain ⟨BK171, HB, BK172, GW172, GE172, NB171_172, NB172_171⟩ := n_; clear hb hbox hg) | ((with_reducible refine gate_dst (N := 8) rfl ?_); (try (refine gate_guard (by rfl) ?_; dsimp only)); refine bx_ (N := 8) (cs := #[.int .i64 0, .slice none 0 0]) (t := 24) ?_; intro gb173 hg w68 hbox hb; have n_ := a_ (bb_ BK171 hb) (a_ (bb_ BK172 hb) (a_ (bs_ HB hb) (a_ (Aside0.mk hbox) (a_ (gs_ HB hg) (a_ (gs_ HB hg) (a_ (nl_ BK171 hg) (a_ (ng_ BK171 hg) (a_ (nl_ BK172 hg) (ng_ BK172 hg))))))))); clear BK171 BK172 HB; obtain ⟨BK171, BK172, HB, BK173, GW173, GE173, NB171_173, NB173_171, NB172_173, NB173_172⟩ := n_; clear hb hbox hg; have hnb69 := NB171_172.out; have hnc69 := NB172_171.out; have hnb70 := NB171_173.out; have hnc70 := NB173_171.out; obtain ⟨hcz71_0, hcz71_1, hfz71_0, hfz71_1⟩ := cz2_ BK171; have hnb72 := NB172_173.out; have hnc72 := NB173_172.out; obtain ⟨hcz73_0, hcz73_1, hfz73_0, hfz73_1⟩ := cz2_ BK172) | ((with_reducible refine gate_callee (f := 79) rfl ?_); refine goesL_ (some 13) rfl rfl Try.func79 (by kernel_rfl) rfl #[.agg #[.int .i64 a0_0, .slice A0_1 l0_1.length c0_1], .agg #[.int .i64 a1_0, .slice A1_1 l1_1.length c1_1]] rfl MP_ ?_; (with_reducible refine (zone_two.calls k a0_0 _ _ l0_1 a1_0 _ _ l1_1 t174 _ ?side1 ?side2 ?side3 ?side4 A4.out).mono ?_); (case side1 => exact sd_ (Kd.C_below HR0_1.out HB.out)); (case side2 => exact HC0_1.out); (case side3 => exact sd_ (Kd.C_below HR1_1.out HB.out)); (case side4 => exact HC1_1.out); rintro e w74 ⟨rfl, hb⟩; refine ⟨_, rfl, ?_⟩; have n_ := a_ (bb_ BK171 hb) (a_ (bb_ BK172 hb) (a_ (bb_ BK173 hb) (bs_ HB hb))); clear BK171 BK172 BK173 HB; obtain ⟨BK171, BK172, BK173, HB⟩ := n_; (try clear hb); (try clear hb2); (try clear hk); (try clear hi); obtain ⟨hcz75_0, hcz75_1, hfz75_0, hfz75_1⟩ := cz2_ BK173))
   refine bodyPost_ret (results_ct rfl _ _ gb173 24 #[.int .i64 0, .slice none 0 0] (0, 0) _ rfl (bk2_ BK173.out) Try.underlying24 rfl (by kernel_rfl)) rfl ?_
   exact ⟨_, by first | rfl | (simp [errW_none, errW_some] <;> rfl) | (simp [*, errW_none, errW_some] <;> rfl), by first | exact Kd.R_nil _ _ _ _ _ | exact Kd.N_nil _ _ _ _ _ | exact Kd.V_nil _ _ _ _ _ | exact Kd.Q_nil _ _ _ _ _ | exact Kd.S_nil _ _ _ _ _, HB_⟩
 rw [if_pos c5] at H
 have c5b0 : (t174 == 0) = true := beq_iff_eq.mpr c5
 have c5b1 : (t174 != 0) = false := bne_eq_false_iff_eq.mpr c5
 clear c5
 have HC6 := Aside0.mk H
 clear H
 go_enter Try.func77, Try.ntmps77
 go_upto_region 4 with (first | ((with_reducible refine gate_dst (N := 4) rfl ?_); (try (refine gate_guard (by rfl) ?_; dsimp only)); refine bx_ (N := 4) (cs := #[.int .i64 a0_0, .slice A0_1 l0_1.length c0_1]) (t := 24) ?_; intro gb171 hg w7 hbox hb; have n_ := a_ (bs_ HB hb) (a_ (Aside0.mk hbox) (a_ (gs_ HB hg) (gs_ HB hg))); clear HB; obtain ⟨HB, BK171, GW171, GE171⟩ := n_; clear hb hbox hg) | ((with_reducible refine gate_dst (N := 5) rfl ?_); (try (refine gate_guard (by rfl) ?_; dsimp only)); refine bx_ (N := 5) (cs := #[.int .i64 a1_0, .slice A1_1 l1_1.length c1_1]) (t := 24) ?_; intro gb172 hg w8 hbox hb; have n_ := a_ (bb_ BK171 hb) (a_ (bs_ HB hb) (a_ (Aside0.mk hbox) (a_ (gs_ HB hg) (a_ (gs_ HB hg) (a_ (nl_ BK171 hg) (ng_ BK171 hg)))))); clear BK171 HB; obtain ⟨BK171, HB, BK172, GW172, GE172, NB171_172, NB172_171⟩ := n_; clear hb hbox hg) | ((with_reducible refine gate_dst (N := 8) rfl ?_); (try (refine gate_guard (by rfl) ?_; dsimp only)); refine bx_ (N := 8) (cs := #[.int .i64 0, .slice none 0 0]) (t := 24) ?_; intro gb173 hg w9 hbox hb; have n_ := a_ (bb_ BK171 hb) (a_ (bb_ BK172 hb) (a_ (bs_ HB hb) (a_ (Aside0.mk hbox) (a_ (gs_ HB hg) (a_ (gs_ HB hg) (a_ (nl_ BK171 hg) (a_ (ng_ BK171 hg) (a_ (nl_ BK172 hg) (ng_ BK172 hg))))))))); clear BK171 BK172 HB; obtain ⟨BK171, BK172, HB, BK173, GW173, GE173, NB171_173, NB173_171, NB172_173, NB173_172⟩ := n_; clear hb hbox hg; have hnb10 := NB171_172.out; have hnc10 := NB172_171.out; have hnb11 := NB171_173.out; have hnc11 := NB173_171.out; obtain ⟨hcz12_0, hcz12_1, hfz12_0, hfz12_1⟩ := cz2_ BK171; have hnb13 := NB172_173.out; have hnc13 := NB173_172.out; obtain ⟨hcz14_0, hcz14_1, hfz14_0, hfz14_1⟩ := cz2_ BK172) | ((with_reducible refine gate_callee (f := 79) rfl ?_); refine goesL_ (some 13) rfl rfl Try.func79 (by kernel_rfl) rfl #[.agg #[.int .i64 a0_0, .slice A0_1 l0_1.length c0_1], .agg #[.int .i64 a1_0, .slice A1_1 l1_1.length c1_1]] rfl MP_ ?_; (with_reducible refine (zone_two.calls k a0_0 _ _ l0_1 a1_0 _ _ l1_1 t174 _ ?side1 ?side2 ?side3 ?side4 A4.out).mono ?_); (case side1 => exact sd_ (Kd.C_below HR0_1.out HB.out)); (case side2 => exact HC0_1.out); (case side3 => exact sd_ (Kd.C_below HR1_1.out HB.out)); (case side4 => exact HC1_1.out); rintro e w15 ⟨rfl, hb⟩; refine ⟨_, rfl, ?_⟩; have n_ := a_ (bb_ BK171 hb) (a_ (bb_ BK172 hb) (a_ (bb_ BK173 hb) (bs_ HB hb))); clear BK171 BK172 BK173 HB; obtain ⟨BK171, BK172, BK173, HB⟩ := n_; (try clear hb); (try clear hb2); (try clear hk); (try clear hi)))
 (try simp only [Act.put, List.setIfInBounds_toArray, List.set_cons_zero, List.set_cons_succ])
 go_cut [19] (fun v19 wc => ∃ (kq : Nat) (x19_5 : Bool), v19 = .bool x19_5 ∧ Aside0 (zone_both_v0.j0 kq a2 x19_5 a0_0 l0_1 a1_0 l1_1 = some (r1, r2, r3)) ∧ Aside0 (kq ≤ k) ∧ Aside0 (wc.heap[gb171]? = some (.cells #[.int .i64 a0_0, (.slice A0_1 l0_1.length c0_1)] 24 (0, 0))) ∧ Aside0 (wc.heap[gb172]? = some (.cells #[.int .i64 a1_0, (.slice A1_1 l1_1.length c1_1)] 24 (0, 0))) ∧ Aside0 (wc.heap[gb173]? = some (.cells #[.int .i64 0, (.slice none 0 0)] 24 (0, 0))) ∧ Aside0 (Below w.heap.size w wc))
 case first =>
   have H := HC6.out
   clear HC6
   by_cases c16 : (l0_1.length : Int) > 0
   rotate_left
   · rw [if_neg c16] at H
     have c16b0 : decide (0 < (l0_1.length : Int)) = false := decide_eq_false c16
     have c16b1 : decide (0 < l0_1.length) = false := decide_eq_false (by omega)
     clear c16
     (first | rw [c16b0] | (simp only [i64_w, i32_w]; rw [c16b0]) | skip)
     have H' := Aside0.mk H
     clear H
     have hnb22 := NB171_172.out
     have hnc22 := NB172_171.out
     have hnb23 := NB171_173.out
     have hnc23 := NB173_171.out
     obtain ⟨hcz24_0, hcz24_1, hfz24_0, hfz24_1⟩ := cz2_ BK171
     go_wp2
     go_meet
     case rel => exact ⟨_, (false), (by first | rfl | (simp; done) | (simp [*]; done)), H', ⟨by first | omega | exact Nat.le_refl _⟩, ⟨by (with_reducible repeat (first | refine blk_drewN ?_ _ | refine blk_drew ?_ | refine blk_alloc ?_ _)); exact BK171.out⟩, ⟨by (with_reducible repeat (first | refine blk_drewN ?_ _ | refine blk_drew ?_ | refine blk_alloc ?_ _)); exact BK172.out⟩, ⟨by (with_reducible repeat (first | refine blk_drewN ?_ _ | refine blk_drew ?_ | refine blk_alloc ?_ _)); exact BK173.out⟩, ⟨HB_⟩⟩
   rw [if_pos c16] at H
   have c16b0 : decide (0 < (l0_1.length : Int)) = true := decide_eq_true c16
   have c16b1 : decide (0 < l0_1.length) = true := decide_eq_true (by omega)
   clear c16
   (first | rw [c16b0] | (simp only [i64_w, i32_w]; rw [c16b0]) | skip)
   have H' := Aside0.mk H
   clear H
   have hnb17 := NB171_172.out
   have hnc17 := NB172_171.out
   have hnb18 := NB171_173.out
   have hnc18 := NB173_171.out
   obtain ⟨hcz19_0, hcz19_1, hfz19_0, hfz19_1⟩ := cz2_ BK171
   have hnb20 := NB172_173.out
   have hnc20 := NB173_172.out
   obtain ⟨hcz21_0, hcz21_1, hfz21_0, hfz21_1⟩ := cz2_ BK172
   go_wp2
   go_meet
   case rel => exact ⟨_, (decide ((l1_1.length : Int) > 0)), (by first | rfl | (simp; done) | (simp [*]; done)), H', ⟨by first | omega | exact Nat.le_refl _⟩, ⟨by (with_reducible repeat (first | refine blk_drewN ?_ _ | refine blk_drew ?_ | refine blk_alloc ?_ _)); exact BK171.out⟩, ⟨by (with_reducible repeat (first | refine blk_drewN ?_ _ | refine blk_drew ?_ | refine blk_alloc ?_ _)); exact BK172.out⟩, ⟨by (with_reducible repeat (first | refine blk_drewN ?_ _ | refine blk_drew ?_ | refine blk_alloc ?_ _)); exact BK173.out⟩, ⟨HB_⟩⟩
 case rest =>
   clear HC6
   try clear c1
   try clear c2
   try clear p2
   try clear c5
   try clear c5b0
   try clear c5b1
   try clear c7
   try clear c10
   try clear c11
   try clear c13
   try clear c16
   try clear c16b0
   try clear c16b1
   try clear c17
   try clear c18
   try clear c20
   try clear c22
   try clear c23
   try clear hcz12_0
   try clear hcz12_1
   try clear hcz14_0
   try clear hcz14_1
   try clear hcz19_0
   try clear hcz19_1
   try clear hcz21_0
   try clear hcz21_1
   try clear hcz24_0
   try clear hcz24_1
   try clear hfz12_0
   try clear hfz12_1
   try clear hfz14_0
   try clear hfz14_1
   try clear hfz19_0
   try clear hfz19_1
   try clear hfz21_0
   try clear hfz21_1
   try clear hfz24_0
   try clear hfz24_1
   obtain ⟨kq, x19_5, rfl, HA, HJ5, BK171, BK172, BK173, HB⟩ := hcut
   cases kq with
   | zero => exact absurd HA.out (by simp [zone_both_v0.j0])
   | succ kj5 =>
     have H := HA.out
     clear HA
     simp only [zone_both_v0.j0] at H
     by_cases c25 : x19_5 = true
     · subst c25
       have H1 : ((zone_mixed_v0.f kj5 a0_0 l0_1 a1_0 l1_1).bind fun bt175 => (some (bt175.1, bt175.2, 0))) = some (r1, r2, r3) := by rw [if_pos rfl] at H; exact H
       clear H
       have H := H1
       clear H1
       replace H := Option.bind_eq_some_iff.mp H
       obtain ⟨⟨t175, t176⟩, A260, H⟩ := H
       replace H : (some (t175, t176, 0)) = some (r1, r2, r3) := H
       have A26 := Aside0.mk A260
       clear A260
       simp only [Option.some.injEq, Prod.mk.injEq] at H
       obtain ⟨rfl, rfl, rfl⟩ := H
       have hnb27 := NB171_172.out
       have hnc27 := NB172_171.out
       have hnb28 := NB171_173.out
       have hnc28 := NB173_171.out
       obtain ⟨hcz29_0, hcz29_1, hfz29_0, hfz29_1⟩ := cz2_ BK171
       have hnb30 := NB172_173.out
       have hnc30 := NB173_172.out
       obtain ⟨hcz31_0, hcz31_1, hfz31_0, hfz31_1⟩ := cz2_ BK172
       go_wp2_with (first | ((with_reducible refine gate_callee (f := 102) rfl ?_); refine goesL_ (some 33) rfl rfl Try.func102 (by kernel_rfl) rfl #[.agg #[.int .i64 a0_0, .slice A0_1 l0_1.length c0_1], .agg #[.int .i64 a1_0, .slice A1_1 l1_1.length c1_1], .func (.func 81) #[] #[]] rfl MP_ ?_; (with_reducible refine (zone_mixed_v0.calls kj5 a0_0 _ _ l0_1 a1_0 _ _ l1_1 t175 t176 _ ?side1 ?side2 ?side3 ?side4 A26.out).mono ?_); (case side1 => exact sd_ (Kd.C_below HR0_1.out HB.out)); (case side2 => exact HC0_1.out); (case side3 => exact sd_ (Kd.C_below HR1_1.out HB.out)); (case side4 => exact HC1_1.out); rintro e w32 ⟨v177, rfl, ho0, hb⟩; refine ⟨_, rfl, ?_⟩; have n_ := a_ (Aside0.mk (Kd.R_lower ho0 (below_size HB_))) (a_ (bb_ BK171 hb) (a_ (bb_ BK172 hb) (a_ (bb_ BK173 hb) (bs_ HB hb)))); clear BK171 BK172 BK173 HB; obtain ⟨HO178, BK171, BK172, BK173, HB⟩ := n_; (try clear hb); (try clear hb2); (try clear hk); (try clear hi); (try clear ho0); obtain ⟨hcz33_0, hcz33_1, hfz33_0, hfz33_1⟩ := cz2_ BK173; obtain ⟨Ao34, co34, eo34⟩ := Kd.R_slice HO178.out; subst eo34))
       refine bodyPost_ret (results_ct rfl _ _ gb173 24 #[.int .i64 t175, .slice Ao34 t176.length co34] (0, 0) _ rfl (bk2_ BK173.out) Try.underlying24 rfl (by kernel_rfl)) rfl ?_
       exact ⟨_, by first | rfl | (simp [errW_none, errW_some] <;> rfl) | (simp [*, errW_none, errW_some] <;> rfl), by (with_reducible repeat (first | apply Kd.R_alloc | apply Kd.R_drewN | apply Kd.R_drew)); exact Kd.R_mono (Kd.R_far (p := ⟨gb173, 1, none⟩) (Kd.R_far (p := ⟨gb173, 0, none⟩) (Kd.R_types HO178.out BK173.out (by decide)) (fun _ hk => hk.2) (.int .i64 t175)) (fun _ hk => hk.2) (.slice Ao34 t176.length co34)) (fun _ hk => trivial), HB_⟩
     replace c25 := Bool.eq_false_iff.mpr c25
     subst c25
     have H1 : (if a2 = true then (if (l0_1.length : Int) = 0 then ((slices_Clone_int_int.f l1_1).bind fun t179 => (some (a1_0, t179, 0))) else ((slices_Clone_int_int.f l0_1).bind fun t182 => (some (a0_0, t182, 0)))) else ((zone_empty.f a0_0 l0_1).bind fun bt185 => (some (bt185.1, bt185.2, 0)))) = some (r1, r2, r3) := by rw [if_neg (show ¬ (false = true) by decide)] at H; exact H
     clear H
     have H := H1
     clear H1
     by_cases c35 : a2 = true
     rotate_left
     · replace c35 := Bool.eq_false_iff.mpr c35
       subst c35
       have H1 : ((zone_empty.f a0_0 l0_1).bind fun bt185 => (some (bt185.1, bt185.2, 0))) = some (r1, r2, r3) := by rw [if_neg (show ¬ (false = true) by decide)] at H; exact H
       clear H
       have H := H1
       clear H1
       replace H := Option.bind_eq_some_iff.mp H
       obtain ⟨⟨t185, t186⟩, A580, H⟩ := H
       replace H : (some (t185, t186, 0)) = some (r1, r2, r3) := H
       have A58 := Aside0.mk A580
       clear A580
       simp only [Option.some.injEq, Prod.mk.injEq] at H
       obtain ⟨rfl, rfl, rfl⟩ := H
       have hnb59 := NB171_172.out
       have hnc59 := NB172_171.out
       have hnb60 := NB171_173.out
       have hnc60 := NB173_171.out
       obtain ⟨hcz61_0, hcz61_1, hfz61_0, hfz61_1⟩ := cz2_ BK171
       go_wp2_with (first | ((with_reducible refine gate_callee (f := 68) rfl ?_); refine goesL_ (some 38) rfl rfl Try.func68 (by kernel_rfl) rfl #[.agg #[.int .i64 a0_0, .slice A0_1 l0_1.length c0_1]] rfl MP_ ?_; (with_reducible refine (zone_empty.calls a0_0 _ _ l0_1 t185 t186 _ ?side1 ?side2 A58.out).mono ?_); (case side1 => exact sd_ (Kd.C_below HR0_1.out HB.out)); (case side2 => exact HC0_1.out); rintro e w62 ⟨v187, rfl, ho0, hb⟩; refine ⟨_, rfl, ?_⟩; have n_ := a_ (Aside0.mk (Kd.R_lower ho0 (below_size HB_))) (a_ (bb_ BK171 hb) (a_ (bb_ BK172 hb) (a_ (bb_ BK173 hb) (bs_ HB hb)))); clear BK171 BK172 BK173 HB; obtain ⟨HO188, BK171, BK172, BK173, HB⟩ := n_; (try clear hb); (try clear hb2); (try clear hk); (try clear hi); (try clear ho0); have hnb63 := NB173_172.out; have hnc63 := NB172_173.out; obtain ⟨hcz64_0, hcz64_1, hfz64_0, hfz64_1⟩ := cz2_ BK173; obtain ⟨Ao65, co65, eo65⟩ := Kd.R_slice HO188.out; subst eo65))
       refine bodyPost_ret (results_ct rfl _ _ gb173 24 #[.int .i64 t185, .slice Ao65 t186.length co65] (0, 0) _ rfl (bk2_ BK173.out) Try.underlying24 rfl (by kernel_rfl)) rfl ?_
       exact ⟨_, by first | rfl | (simp [errW_none, errW_some] <;> rfl) | (simp [*, errW_none, errW_some] <;> rfl), by (with_reducible repeat (first | apply Kd.R_alloc | apply Kd.R_drewN | apply Kd.R_drew)); exact Kd.R_mono (Kd.R_far (p := ⟨gb173, 1, none⟩) (Kd.R_far (p := ⟨gb173, 0, none⟩) (Kd.R_types HO188.out BK173.out (by decide)) (fun _ hk => hk.2) (.int .i64 t185)) (fun _ hk => hk.2) (.slice Ao65 t186.length co65)) (fun _ hk => trivial), HB_⟩
     subst c35
     have H1 : (if (l0_1.length : Int) = 0 then ((slices_Clone_int_int.f l1_1).bind fun t179 => (some (a1_0, t179, 0))) else ((slices_Clone_int_int.f l0_1).bind fun t182 => (some (a0_0, t182, 0)))) = some (r1, r2, r3) := by rw [if_pos rfl] at H; exact H
     clear H
     have H := H1
     clear H1
     by_cases c36 : (l0_1.length : Int) = 0
     rotate_left
     · rw [if_neg c36] at H
       have c36b0 : ((l0_1.length : Int) == 0) = false := beq_eq_false_iff_ne.mpr c36
       have c36b1 : ((l0_1.length : Int) != 0) = true := bne_iff_ne.mpr c36
       have c36b2 : ¬ (l0_1 = []) := fun h_ => c36 (by rw [h_]; rfl)
       replace H := Option.bind_eq_some_iff.mp H
       obtain ⟨t182, A490, H⟩ := H
       replace H : (some (a0_0, t182, 0)) = some (r1, r2, r3) := H
       have A49 := Aside0.mk A490
       clear A490
       simp only [Option.some.injEq, Prod.mk.injEq] at H
       obtain ⟨rfl, rfl, rfl⟩ := H
       have hnb50 := NB171_172.out
       have hnc50 := NB172_171.out
       have hnb51 := NB171_173.out
       have hnc51 := NB173_171.out
       obtain ⟨hcz52_0, hcz52_1, hfz52_0, hfz52_1⟩ := cz2_ BK171
       try go_wp2
       have n_ := a_ (Aside0.mk (blk_drew BK171.out)) (a_ (Aside0.mk (blk_drew BK172.out)) (a_ (Aside0.mk (blk_drew BK173.out)) (Aside0.mk (below_drew1 HB.out))))
       clear BK171 BK172 BK173 HB
       obtain ⟨BK171, BK172, BK173, HB⟩ := n_
       refine start_ (n := 8) (S := fun w' => w'.cell? ⟨gb171, 0, none⟩ = some (.int .i64 a0_0) ∧ w'.cell? ⟨gb171, 1, none⟩ = some (.slice A0_1 l0_1.length c0_1)) (ds := []) #[false, false, false, false, false, false, false, false] (by kernel_rfl) rfl rfl ⟨(blk_cell BK171.out 0).trans rfl, (blk_cell BK171.out 1).trans rfl⟩ (fun hHeld => ?_); refine with_tabW zone_both_v0.tab10 zone_both_v0.bits10 (fun HT_ HW_ => ?_)
       generalize wc.drew = w53 at BK171 BK172 BK173 HB hHeld ⊢
       refine pu_ 0 (some 45) ?_
       refine pu_ 2 (some 47) ?_
       refine take_ (i := 1) (N := some 46) (v := ?_) (a' := ?_) #[true, true, true, false, false, false, false, false] rfl rfl (take_ofW HT_.out HW_.out (by kernel_rfl)) (fun _ _ _ h => h) (Or.inl ⟨by rfl, ?_⟩) hHeld ?_ ?_
       rotate_left
       · rintro w' ⟨s0, s1⟩
         go_simp
         with_reducible rfl
       rotate_left
       · exact AP_
       refine take_ (i := 3) (N := some 48) (v := ?_) (a' := ?_) #[true, true, true, true, false, false, false, false] rfl rfl (take_ofW HT_.out HW_.out (by kernel_rfl)) (fun _ _ _ h => h) (Or.inl ⟨by rfl, ?_⟩) hHeld ?_ ?_
       rotate_left
       · rintro w' ⟨s0, s1⟩
         go_simp
         with_reducible rfl
       rotate_left
       · exact AP_
       refine on_ 4 (some 49) (fun K hK => ?_)
       refine goes_ Try.func85 (by kernel_rfl) rfl #[.slice A0_1 l0_1.length c0_1] (by rfl) rfl rfl MP_ ?_
       with_reducible refine (slices_Clone_int_int.calls _ _ l0_1 t182 _ ?side1 ?side2 A49.out).mono ?_
       (case side1 => exact sd_ (Kd.C_below HR0_1.out HB.out))
       (case side2 => exact HC0_1.out)
       rintro e w54 ⟨v183, rfl, ho0, hb⟩
       refine ⟨_, rfl, ?_⟩
       have n_ := a_ (Aside0.mk (Kd.R_lower ho0 (below_size HB_))) (a_ (bb_ BK171 hb) (a_ (bb_ BK172 hb) (a_ (bb_ BK173 hb) (bs_ HB hb))))
       clear BK171 BK172 BK173 HB
       obtain ⟨HO184, BK171, BK172, BK173, HB⟩ := n_
       (try clear hb)
       (try clear hb2)
       (try clear hk)
       (try clear hi)
       (try clear ho0)
       obtain ⟨Ao55, co55, eo55⟩ := Kd.R_slice HO184.out
       (first | subst eo55 | (injection eo55 with f1_ f2_ f3_; have f4_ := f1_.symm; have f5_ := f3_.symm; clear f1_ f2_ f3_; subst f4_; subst f5_))
       refine hK.out _ _ ⟨(blk_cell BK171.out 0).trans rfl, (blk_cell BK171.out 1).trans rfl⟩ (fun hHeld => ?_)
       clear hK K
       refine nm_ ?_
       refine pu_ 5 (some 50) ?_
       refine on_ 6 (none) (fun K hK => ?_)
       have hs56 : w54.cell? ⟨gb173, 0, none⟩ = some (.int .i64 0) := (blk_cell BK173.out 0).trans rfl
       have hfs56 := blk_frozen BK173.out 0
       have hns56_0 := NB171_173.out
       have hns56_1 := NB172_173.out
       have hms56_0 := NB173_171.out
       have hms56_1 := NB173_172.out
       have hs57 : w54.cell? ⟨gb173, 1, none⟩ = some (.slice none 0 0) := (blk_cell BK173.out 1).trans rfl
       have hfs57 := blk_frozen BK173.out 1
       have hns57_0 := NB171_173.out
       have hns57_1 := NB172_173.out
       have hms57_0 := NB173_171.out
       have hms57_1 := NB173_172.out
       refine skip_ (w1 := ?_) (by rfl) rfl ?_ ?_
       rotate_left
       · go_simp
         rfl
       refine hK.out _ _ ⟨((cell_far (p := ⟨gb173, _, none⟩) NB171_173.out _).trans (((cell_far (p := ⟨gb173, _, none⟩) NB171_173.out _).trans (hHeld.1)))), ((cell_far (p := ⟨gb173, _, none⟩) NB171_173.out _).trans (((cell_far (p := ⟨gb173, _, none⟩) NB171_173.out _).trans (hHeld.2))))⟩ (fun hHeld => ?_)
       clear hK K
       refine pu_ 7 (some 9) ?_
       refine done_ (done_of HT_.out (by kernel_rfl)) ?_
       try go_wp2
       refine bodyPost_ret (results_ct rfl _ _ gb173 24 #[.int .i64 a0_0, .slice Ao55 t182.length co55] (0, 0) _ rfl (bk2_ BK173.out) Try.underlying24 rfl (by kernel_rfl)) rfl ?_
       exact ⟨_, by first | rfl | (simp [errW_none, errW_some] <;> rfl) | (simp [*, errW_none, errW_some] <;> rfl), by (with_reducible repeat (first | apply Kd.R_alloc | apply Kd.R_drewN | apply Kd.R_drew)); exact Kd.R_mono (Kd.R_far (p := ⟨gb173, 1, none⟩) (Kd.R_far (p := ⟨gb173, 0, none⟩) (Kd.R_types HO184.out BK173.out (by decide)) (fun _ hk => hk.2) (.int .i64 a0_0)) (fun _ hk => hk.2) (.slice Ao55 t182.length co55)) (fun _ hk => trivial), HB_⟩
     rw [if_pos c36] at H
     have c36b0 : ((l0_1.length : Int) == 0) = true := beq_iff_eq.mpr c36
     have c36b1 : ((l0_1.length : Int) != 0) = false := bne_eq_false_iff_eq.mpr c36
     clear c36
     replace H := Option.bind_eq_some_iff.mp H
     obtain ⟨t179, A370, H⟩ := H
     replace H : (some (a1_0, t179, 0)) = some (r1, r2, r3) := H
     have A37 := Aside0.mk A370
     clear A370
     simp only [Option.some.injEq, Prod.mk.injEq] at H
     obtain ⟨rfl, rfl, rfl⟩ := H
     have hnb38 := NB171_172.out
     have hnc38 := NB172_171.out
     have hnb39 := NB171_173.out
     have hnc39 := NB173_171.out
     obtain ⟨hcz40_0, hcz40_1, hfz40_0, hfz40_1⟩ := cz2_ BK171
     have hnb41 := NB172_173.out
     have hnc41 := NB173_172.out
     obtain ⟨hcz42_0, hcz42_1, hfz42_0, hfz42_1⟩ := cz2_ BK172
     try go_wp2
     have n0_ : Aside0 (((wc.setCell ⟨gb171, 0, none⟩ (.int .i64 a1_0)).setCell ⟨gb171, 1, none⟩ (.slice A1_1 l1_1.length c1_1)).heap[gb171]? = some (.cells #[.int .i64 a1_0, .slice A1_1 l1_1.length c1_1] 24 (0, 0))) := ⟨by (with_reducible repeat (first | refine blk_drewN ?_ _ | refine blk_drew ?_ | refine blk_alloc ?_ _)); refine blk_put (cs := #[.int .i64 a1_0, .slice A0_1 l0_1.length c0_1]) ?_ 1 _ rfl; (with_reducible repeat (first | refine blk_drewN ?_ _ | refine blk_drew ?_ | refine blk_alloc ?_ _)); refine blk_put (cs := #[.int .i64 a0_0, .slice A0_1 l0_1.length c0_1]) ?_ 0 _ rfl; (with_reducible repeat (first | refine blk_drewN ?_ _ | refine blk_drew ?_ | refine blk_alloc ?_ _)); exact BK171.out⟩
     have n1_ : Aside0 (((wc.setCell ⟨gb171, 0, none⟩ (.int .i64 a1_0)).setCell ⟨gb171, 1, none⟩ (.slice A1_1 l1_1.length c1_1)).heap[gb172]? = some (.cells #[.int .i64 a1_0, .slice A1_1 l1_1.length c1_1] 24 (0, 0))) := ⟨by (with_reducible repeat (first | refine blk_drewN ?_ _ | refine blk_drew ?_ | refine blk_alloc ?_ _)); refine blk_far ?_ NB172_171.out _; (with_reducible repeat (first | refine blk_drewN ?_ _ | refine blk_drew ?_ | refine blk_alloc ?_ _)); refine blk_far ?_ NB172_171.out _; (with_reducible repeat (first | refine blk_drewN ?_ _ | refine blk_drew ?_ | refine blk_alloc ?_ _)); exact BK172.out⟩
     have n2_ : Aside0 (((wc.setCell ⟨gb171, 0, none⟩ (.int .i64 a1_0)).setCell ⟨gb171, 1, none⟩ (.slice A1_1 l1_1.length c1_1)).heap[gb173]? = some (.cells #[.int .i64 0, .slice none 0 0] 24 (0, 0))) := ⟨by (with_reducible repeat (first | refine blk_drewN ?_ _ | refine blk_drew ?_ | refine blk_alloc ?_ _)); refine blk_far ?_ NB173_171.out _; (with_reducible repeat (first | refine blk_drewN ?_ _ | refine blk_drew ?_ | refine blk_alloc ?_ _)); refine blk_far ?_ NB173_171.out _; (with_reducible repeat (first | refine blk_drewN ?_ _ | refine blk_drew ?_ | refine blk_alloc ?_ _)); exact BK173.out⟩
     have n3_ : Aside0 (Below w.heap.size w ((wc.setCell ⟨gb171, 0, none⟩ (.int .i64 a1_0)).setCell ⟨gb171, 1, none⟩ (.slice A1_1 l1_1.length c1_1))) := ⟨HB_⟩
     (try clear BK171)
     (try clear BK172)
     (try clear BK173)
     (try clear HB)
     generalize ((wc.setCell ⟨gb171, 0, none⟩ (.int .i64 a1_0)).setCell ⟨gb171, 1, none⟩ (.slice A1_1 l1_1.length c1_1)) = w43 at n0_ n1_ n2_ n3_ ⊢
     have BK171 := n0_
     have BK172 := n1_
     have BK173 := n2_
     have HB := n3_
     clear n0_ n1_ n2_ n3_
     first | (obtain ⟨w43, hq_⟩ : ∃ x, x = w43.drewN nd := ⟨_, rfl⟩; rw [← hq_]; have q0_ := Aside0.mk (blk_drewN BK171.out nd); rw [← hq_] at q0_; have q1_ := Aside0.mk (blk_drewN BK172.out nd); rw [← hq_] at q1_; have q2_ := Aside0.mk (blk_drewN BK173.out nd); rw [← hq_] at q2_; have q3_ := Aside0.mk (pw_below_drewN HB.out nd); rw [← hq_] at q3_; clear BK171; clear BK172; clear BK173; clear HB; have BK171 := q0_; have BK172 := q1_; have BK173 := q2_; have HB := q3_; clear hq_ q0_ q1_ q2_ q3_) | skip
     have n_ := a_ (Aside0.mk (blk_drew BK171.out)) (a_ (Aside0.mk (blk_drew BK172.out)) (a_ (Aside0.mk (blk_drew BK173.out)) (Aside0.mk (below_drew1 HB.out))))
     clear BK171 BK172 BK173 HB
     obtain ⟨BK171, BK172, BK173, HB⟩ := n_
     refine start_ (n := 8) (S := fun w' => w'.cell? ⟨gb171, 0, none⟩ = some (.int .i64 a1_0) ∧ w'.cell? ⟨gb171, 1, none⟩ = some (.slice A1_1 l1_1.length c1_1)) (ds := []) #[false, false, false, false, false, false, false, false] (by kernel_rfl) rfl rfl ⟨(blk_cell BK171.out 0).trans rfl, (blk_cell BK171.out 1).trans rfl⟩ (fun hHeld => ?_); refine with_tabW zone_both_v0.tab10 zone_both_v0.bits10 (fun HT_ HW_ => ?_)
     generalize w43.drew = w44 at BK171 BK172 BK173 HB hHeld ⊢
     refine pu_ 0 (some 45) ?_
     refine pu_ 2 (some 47) ?_
     refine take_ (i := 1) (N := some 46) (v := ?_) (a' := ?_) #[true, true, true, false, false, false, false, false] rfl rfl (take_ofW HT_.out HW_.out (by kernel_rfl)) (fun _ _ _ h => h) (Or.inl ⟨by rfl, ?_⟩) hHeld ?_ ?_
     rotate_left
     · rintro w' ⟨s0, s1⟩
       go_simp
       with_reducible rfl
     rotate_left
     · exact AP_
     refine take_ (i := 3) (N := some 48) (v := ?_) (a' := ?_) #[true, true, true, true, false, false, false, false] rfl rfl (take_ofW HT_.out HW_.out (by kernel_rfl)) (fun _ _ _ h => h) (Or.inl ⟨by rfl, ?_⟩) hHeld ?_ ?_
     rotate_left
     · rintro w' ⟨s0, s1⟩
       go_simp
       with_reducible rfl
     rotate_left
     · exact AP_
     refine on_ 4 (some 49) (fun K hK => ?_)
     refine goes_ Try.func85 (by kernel_rfl) rfl #[.slice A1_1 l1_1.length c1_1] (by rfl) rfl rfl MP_ ?_
     with_reducible refine (slices_Clone_int_int.calls _ _ l1_1 t179 _ ?side1 ?side2 A37.out).mono ?_
     (case side1 => exact sd_ (Kd.C_below HR1_1.out HB.out))
     (case side2 => exact HC1_1.out)
     rintro e w45 ⟨v180, rfl, ho0, hb⟩
     refine ⟨_, rfl, ?_⟩
     have n_ := a_ (Aside0.mk (Kd.R_lower ho0 (below_size HB_))) (a_ (bb_ BK171 hb) (a_ (bb_ BK172 hb) (a_ (bb_ BK173 hb) (bs_ HB hb))))
     clear BK171 BK172 BK173 HB
     obtain ⟨HO181, BK171, BK172, BK173, HB⟩ := n_
     (try clear hb)
     (try clear hb2)
     (try clear hk)
     (try clear hi)
     (try clear ho0)
     obtain ⟨Ao46, co46, eo46⟩ := Kd.R_slice HO181.out
     (first | subst eo46 | (injection eo46 with f1_ f2_ f3_; have f4_ := f1_.symm; have f5_ := f3_.symm; clear f1_ f2_ f3_; subst f4_; subst f5_))
     refine hK.out _ _ ⟨(blk_cell BK171.out 0).trans rfl, (blk_cell BK171.out 1).trans rfl⟩ (fun hHeld => ?_)
     clear hK K
     refine nm_ ?_
     refine pu_ 5 (some 50) ?_
     refine on_ 6 (none) (fun K hK => ?_)
     have hs47 : w45.cell? ⟨gb173, 0, none⟩ = some (.int .i64 0) := (blk_cell BK173.out 0).trans rfl
     have hfs47 := blk_frozen BK173.out 0
     have hns47_0 := NB171_173.out
     have hns47_1 := NB172_173.out
     have hms47_0 := NB173_171.out
     have hms47_1 := NB173_172.out
     have hs48 : w45.cell? ⟨gb173, 1, none⟩ = some (.slice none 0 0) := (blk_cell BK173.out 1).trans rfl
     have hfs48 := blk_frozen BK173.out 1
     have hns48_0 := NB171_173.out
     have hns48_1 := NB172_173.out
     have hms48_0 := NB173_171.out
     have hms48_1 := NB173_172.out
     refine skip_ (w1 := ?_) (by rfl) rfl ?_ ?_
     rotate_left
     · go_simp
       rfl
     refine hK.out _ _ ⟨((cell_far (p := ⟨gb173, _, none⟩) NB171_173.out _).trans (((cell_far (p := ⟨gb173, _, none⟩) NB171_173.out _).trans (hHeld.1)))), ((cell_far (p := ⟨gb173, _, none⟩) NB171_173.out _).trans (((cell_far (p := ⟨gb173, _, none⟩) NB171_173.out _).trans (hHeld.2))))⟩ (fun hHeld => ?_)
     clear hK K
     refine pu_ 7 (some 9) ?_
     refine done_ (done_of HT_.out (by kernel_rfl)) ?_
     try go_wp2
     refine bodyPost_ret (results_ct rfl _ _ gb173 24 #[.int .i64 a1_0, .slice Ao46 t179.length co46] (0, 0) _ rfl (bk2_ BK173.out) Try.underlying24 rfl (by kernel_rfl)) rfl ?_
     exact ⟨_, by first | rfl | (simp [errW_none, errW_some] <;> rfl) | (simp [*, errW_none, errW_some] <;> rfl), by (with_reducible repeat (first | apply Kd.R_alloc | apply Kd.R_drewN | apply Kd.R_drew)); exact Kd.R_mono (Kd.R_far (p := ⟨gb173, 1, none⟩) (Kd.R_far (p := ⟨gb173, 0, none⟩) (Kd.R_types HO181.out BK173.out (by decide)) (fun _ hk => hk.2) (.int .i64 a1_0)) (fun _ hk => hk.2) (.slice Ao46 t179.length co46)) (fun _ hk => trivial), HB_⟩
def zone_Meet.f (k : Nat) (a0_0 : Int) (l0_1 : List Int) (a1_0 : Int) (l1_1 : List Int) : Option (Int × List Int × Int) := (zone_both_v0.f k a0_0 l0_1 a1_0 l1_1 false).bind fun bt192 => (some (bt192.1, bt192.2.1, bt192.2.2))
theorem zone_Meet.mono : ∀ a0 a1 a2 a3 k, LeO (zone_Meet.f k a0 a1 a2 a3) (zone_Meet.f (k + 1) a0 a1 a2 a3) := by
 intro a0 a1 a2 a3 k
 unfold zone_Meet.f
 repeat' first
  | (with_reducible exact zone_both_v0.mono _ _ _ _ _ _)
  | (with_reducible exact LeO.refl _)
  | (with_reducible exact LeO.none _)
  | (with_reducible refine LeO.ite ?_ ?_)
  | (with_reducible refine LeO.bind ?_ (fun _ => ?_))
  | exact zone_both_v0.mono _ _ _ _ _ _
  | exact LeO.none _
  | refine LeO.ite ?_ ?_
  | refine LeO.bind ?_ (fun _ => ?_)
set_option maxHeartbeats 8000000 in
set_option maxRecDepth 100000 in
theorem zone_Meet.calls (k : Nat) (a0_0 : Int) (A0_1 : Option Addr) (c0_1 : Nat) (l0_1 : List Int) (a1_0 : Int) (A1_1 : Option Addr) (c1_1 : Nat) (l1_1 : List Int) (r1 : Int) (r2 : List Int) (r3 : Int) (w : World) (hr0_1 : Kd.C (Kd.int .i64) w A0_1 l0_1.length l0_1) (hc0_1 : l0_1.length ≤ c0_1) (hr1_1 : Kd.C (Kd.int .i64) w A1_1 l1_1.length l1_1) (hc1_1 : l1_1.length ≤ c1_1) (h : zone_Meet.f k a0_0 l0_1 a1_0 l1_1 = some (r1, r2, r3)) :
  Calls Try.prog 37 #[.agg #[.int .i64 a0_0, .slice A0_1 l0_1.length c0_1], .agg #[.int .i64 a1_0, .slice A1_1 l1_1.length c1_1]] w fun e w' => ∃ v1_ : Value, e = .returned (.tuple #[.agg #[.int .i64 r1, v1_], .int .i64 r3]) ∧ Kd.R (Kd.int .i64) 3 w' w.heap.size (fun _ => True) v1_ r2 ∧ Below w.heap.size w w' := by
 have hu24 := Try.underlying24
 have HR0_1 := Aside0.mk hr0_1
 have HC0_1 := Aside0.mk hc0_1
 clear hr0_1 hc0_1
 have HR1_1 := Aside0.mk hr1_1
 have HC1_1 := Aside0.mk hc1_1
 clear hr1_1 hc1_1
 have HB := Aside0.mk (Below.refl w.heap.size w)
 have H : ((zone_both_v0.f k a0_0 l0_1 a1_0 l1_1 false).bind fun bt192 => (some (bt192.1, bt192.2.1, bt192.2.2))) = some (r1, r2, r3) := h
 clear h
 replace H := Option.bind_eq_some_iff.mp H
 obtain ⟨⟨t192, t193, t196⟩, A30, H⟩ := H
 replace H : (some (t192, t193, t196)) = some (r1, r2, r3) := H
 have A3 := Aside0.mk A30
 clear A30
 simp only [Option.some.injEq, Prod.mk.injEq] at H
 obtain ⟨rfl, rfl, rfl⟩ := H
 go_enter Try.func37, Try.ntmps37
 go_wp2_with (first | ((with_reducible refine gate_dst (N := 2) rfl ?_); refine bx_ (N := 2) (cs := #[.int .i64 a0_0, .slice A0_1 l0_1.length c0_1]) (t := 24) ?_; intro gb189 hg w4 hbox hb; have n_ := a_ (bs_ HB hb) (a_ (Aside0.mk hbox) (a_ (gs_ HB hg) (gs_ HB hg))); clear HB; obtain ⟨HB, BK189, GW189, GE189⟩ := n_; clear hb hbox hg) | ((with_reducible refine gate_dst (N := 3) rfl ?_); refine bx_ (N := 3) (cs := #[.int .i64 a1_0, .slice A1_1 l1_1.length c1_1]) (t := 24) ?_; intro gb190 hg w5 hbox hb; have n_ := a_ (bb_ BK189 hb) (a_ (bs_ HB hb) (a_ (Aside0.mk hbox) (a_ (gs_ HB hg) (a_ (gs_ HB hg) (a_ (nl_ BK189 hg) (ng_ BK189 hg)))))); clear BK189 HB; obtain ⟨BK189, HB, BK190, GW190, GE190, NB189_190, NB190_189⟩ := n_; clear hb hbox hg) | ((with_reducible refine gate_dst (N := 4) rfl ?_); refine bx_ (N := 4) (cs := #[.int .i64 0, .slice none 0 0]) (t := 24) ?_; intro gb191 hg w6 hbox hb; have n_ := a_ (bb_ BK189 hb) (a_ (bb_ BK190 hb) (a_ (bs_ HB hb) (a_ (Aside0.mk hbox) (a_ (gs_ HB hg) (a_ (gs_ HB hg) (a_ (nl_ BK189 hg) (a_ (ng_ BK189 hg) (a_ (nl_ BK190 hg) (ng_ BK190 hg))))))))); clear BK189 BK190 HB; obtain ⟨BK189, BK190, HB, BK191, GW191, GE191, NB189_191, NB191_189, NB190_191, NB191_190⟩ := n_; clear hb hbox hg; have hnb7 := NB189_190.out; have hnc7 := NB190_189.out; have hnb8 := NB189_191.out; have hnc8 := NB191_189.out; obtain ⟨hcz9_0, hcz9_1, hfz9_0, hfz9_1⟩ := cz2_ BK189; have hnb10 := NB190_191.out; have hnc10 := NB191_190.out; obtain ⟨hcz11_0, hcz11_1, hfz11_0, hfz11_1⟩ := cz2_ BK190) | ((with_reducible refine gate_callee (f := 77) rfl ?_); refine goesL_ (some 8) rfl rfl Try.func77 (by kernel_rfl) rfl #[.agg #[.int .i64 a0_0, .slice A0_1 l0_1.length c0_1], .agg #[.int .i64 a1_0, .slice A1_1 l1_1.length c1_1], .bool false, .func (.func 81) #[] #[]] rfl MP_ ?_; (with_reducible refine (zone_both_v0.calls k a0_0 _ _ l0_1 a1_0 _ _ l1_1 false t192 t193 t196 _ ?side1 ?side2 ?side3 ?side4 A3.out).mono ?_); (case side1 => exact sd_ (Kd.C_below HR0_1.out HB.out)); (case side2 => exact HC0_1.out); (case side3 => exact sd_ (Kd.C_below HR1_1.out HB.out)); (case side4 => exact HC1_1.out); rintro e w12 ⟨v194, rfl, ho0, hb⟩; refine ⟨_, rfl, ?_⟩; have n_ := a_ (Aside0.mk (Kd.R_lower ho0 (below_size HB_))) (a_ (bb_ BK189 hb) (a_ (bb_ BK190 hb) (a_ (bb_ BK191 hb) (bs_ HB hb)))); clear BK189 BK190 BK191 HB; obtain ⟨HO195, BK189, BK190, BK191, HB⟩ := n_; (try clear hb); (try clear hb2); (try clear hk); (try clear hi); (try clear ho0); obtain ⟨hcz13_0, hcz13_1, hfz13_0, hfz13_1⟩ := cz2_ BK191; obtain ⟨Ao14, co14, eo14⟩ := Kd.R_slice HO195.out; subst eo14))
 refine bodyPost_ret (results_ct rfl _ _ gb191 24 #[.int .i64 t192, .slice Ao14 t193.length co14] (0, 0) _ rfl (bk2_ BK191.out) Try.underlying24 rfl (by kernel_rfl)) rfl ?_
 exact ⟨_, by first | rfl | (simp [errW_none, errW_some] <;> rfl) | (simp [*, errW_none, errW_some] <;> rfl), by (with_reducible repeat (first | apply Kd.R_alloc | apply Kd.R_drewN | apply Kd.R_drew)); exact Kd.R_mono (Kd.R_far (p := ⟨gb191, 1, none⟩) (Kd.R_far (p := ⟨gb191, 0, none⟩) (Kd.R_types HO195.out BK191.out (by decide)) (fun _ hk => hk.2) (.int .i64 t192)) (fun _ hk => hk.2) (.slice Ao14 t193.length co14)) (fun _ hk => trivial), HB_⟩
end Go.Proofs.Ytgeemdpflcefkaa.Y
