import Derived.Test.YtpcpbeklaibdfaaCx0
import Derived.Test.YtpcpbeklaibdfaaCx3
import Derived.Test.YtpcpbeklaibdfaaCx34
import Derived.Test.YtpcpbeklaibdfaaCx38
import Derived.Test.YtpcpbeklaibdfaaCx42
import Derived.Test.YtpcpbeklaibdfaaCx43
import Derived.Test.YtpcpbeklaibdfaaCx44
namespace Go.Proofs.Ytpcpbeklaibdfaa.C
open Go.RowKit Go.Proofs.YtpcpbeklaibdfaaW.PrintWords Go.Proofs.YtpcpbeklaibdfaaW.PrintLast Go.Proofs.YtpcpbeklaibdfaaW.PrintMore
attribute [local go_sem] max2_int min2_int max_two min_two max_three min_three max_four min_four   -- for this text's walks alone
set_option linter.unusedVariables false
set_option linter.unusedSimpArgs false
mutual
def warrantorlaw13_RunSteps.j0 : Nat → Bool → ByteArray → List ByteArray → List (S53) → List (S57) → Int → List Int → Int → List Int → Int → Int → Option (Bool)
 | 0, _, _, _, _, _, _, _, _, _, _, _ => none
 | k + 1, x22, x301000, x301001, x301002, x301003, x302000, x302001, x303000, x303001, x304000, x304001 => if x22 = true then ((warrantorlaw13_lives.f k).bind fun t305 => (some t305)) else ((run_Step.f x301000 x301001 x301002 x301003 x302000 x302001 x304000 x304001).bind fun bt306 => ((warrantorlaw13_lives.f k).bind fun t312 => (if t312 = true then ((run_Same.f k x302000 x302001 x303000 x303001).bind fun t313 => ((warrantorref13_Same.f k x302000 x302001 x303000 x303001).bind fun t314 => (warrantorlaw13_RunSteps.j1 k bt306.2.2 (t313 != t314) x301000 x301001 x301002 x301003 x302000 x302001 x304000 x304001 bt306.1 bt306.2.1))) else (warrantorlaw13_RunSteps.j1 k bt306.2.2 true x301000 x301001 x301002 x301003 x302000 x302001 x304000 x304001 bt306.1 bt306.2.1))))
def warrantorlaw13_RunSteps.j1 : Nat → Int → Bool → ByteArray → List ByteArray → List (S53) → List (S57) → Int → List Int → Int → Int → Int → List Int → Option (Bool)
 | 0, _, _, _, _, _, _, _, _, _, _, _, _ => none
 | k + 1, x10, x41, x301000, x301001, x301002, x301003, x302000, x302001, x304000, x304001, x312000, x312001 => if x41 = true then (some false) else ((warrantorref11_Check.f k x301000 x301001 x301002 x301003).bind fun t315 => (if t315 = true then ((warrantorref13_Right.f k x301000 x301001 x301002 x301003 x302000 x302001).bind fun t318 => (if t318 = true then ((warrantorref13_Step.f k x301000 x301001 x301002 x301003 x302000 x302001 x304000 x304001).bind fun bt319 => ((run_Right.f x301000 x301001 x301002 x301003 x302000 x302001).bind fun t325 => (if t325 = true then (if x10 = bt319.2.2 then ((warrantorref13_Same.f k x312000 x312001 bt319.1 bt319.2.1).bind fun t326 => (some t326)) else (some false)) else (some false)))) else (if x10 = 1 then ((warrantorref13_Same.f k x312000 x312001 0 ([] : List Int)).bind fun t327 => (if t327 = true then ((run_Right.f x301000 x301001 x301002 x301003 x302000 x302001).bind fun t328 => (some (!t328))) else (some false))) else (some false)))) else (if x10 = 110 then ((warrantorref13_Same.f k x312000 x312001 0 ([] : List Int)).bind fun t316 => (if t316 = true then ((run_Right.f x301000 x301001 x301002 x301003 x302000 x302001).bind fun t317 => (some (!t317))) else (some false))) else (some false))))
end
def warrantorlaw13_RunSteps.f (k : Nat) (a0_0 : ByteArray) (l0_1 : List ByteArray) (l0_2 : List (S53)) (l0_3 : List (S57)) (a1_0 : Int) (l1_1 : List Int) (a2_0 : Int) (l2_1 : List Int) (a3_0 : Int) (a3_1 : Int) : Option (Bool) := (warrantorlaw13_large.f k a0_0 l0_1 l0_2 l0_3 l1_1 ([] : List (S31))).bind fun t304 => (if t304 = true then (warrantorlaw13_RunSteps.j0 k true a0_0 l0_1 l0_2 l0_3 a1_0 l1_1 a2_0 l2_1 a3_0 a3_1) else (warrantorlaw13_RunSteps.j0 k (decide ((l2_1.length : Int) > 20)) a0_0 l0_1 l0_2 l0_3 a1_0 l1_1 a2_0 l2_1 a3_0 a3_1))
def warrantorlaw13_RunSteps.T4 : Bool × List (List Nat × List Nat) := (true, [([], []), ([0], [0]), ([1, 0], [1]), ([2], [2]), ([2], [2]), ([3, 4, 2, 2], [2, 3, 4]), ([2], [2]), ([2], [2]), ([6, 7, 5, 2], [2, 6, 7]), ([5, 8, 2], [2, 5, 8]), ([2, 9], [2, 9])])
def warrantorlaw13_RunSteps.B4 : List Nat := [0, 1, 3, 7, 7, 31, 7, 7, 255, 511, 1023]
theorem warrantorlaw13_RunSteps.tab4 : rtab .any (opsOf Try.f3 4) = warrantorlaw13_RunSteps.T4 := by kernel_rfl
theorem warrantorlaw13_RunSteps.bits4 : waitsOk warrantorlaw13_RunSteps.T4.2 warrantorlaw13_RunSteps.B4 = true := by kernel_rfl
set_option maxHeartbeats 8000000 in
set_option maxRecDepth 100000 in
theorem warrantorlaw13_RunSteps.calls (k : Nat) (a0_0 : ByteArray) (A0_1 : Option Addr) (c0_1 : Nat) (l0_1 : List ByteArray) (A0_2 : Option Addr) (c0_2 : Nat) (l0_2 : List (S53)) (A0_3 : Option Addr) (c0_3 : Nat) (l0_3 : List (S57)) (a1_0 : Int) (A1_1 : Option Addr) (c1_1 : Nat) (l1_1 : List Int) (a2_0 : Int) (A2_1 : Option Addr) (c2_1 : Nat) (l2_1 : List Int) (a3_0 : Int) (a3_1 : Int) (r : Bool) (w : World) (hr0_1 : Kd.C Kd.string w A0_1 l0_1.length l0_1) (hc0_1 : l0_1.length ≤ c0_1) (hr0_2 : Kd.C k53 w A0_2 l0_2.length l0_2) (hc0_2 : l0_2.length ≤ c0_2) (hr0_3 : Kd.C k57 w A0_3 l0_3.length l0_3) (hc0_3 : l0_3.length ≤ c0_3) (hr1_1 : Kd.C (Kd.int .i64) w A1_1 l1_1.length l1_1) (hc1_1 : l1_1.length ≤ c1_1) (hr2_1 : Kd.C (Kd.int .i64) w A2_1 l2_1.length l2_1) (hc2_1 : l2_1.length ≤ c2_1) (h : warrantorlaw13_RunSteps.f k a0_0 l0_1 l0_2 l0_3 a1_0 l1_1 a2_0 l2_1 a3_0 a3_1 = some r) :
  Calls Try.prog 3 #[.agg #[.string a0_0, .slice A0_1 l0_1.length c0_1, .slice A0_2 l0_2.length c0_2, .slice A0_3 l0_3.length c0_3], .agg #[.int .i64 a1_0, .slice A1_1 l1_1.length c1_1], .agg #[.int .i64 a2_0, .slice A2_1 l2_1.length c2_1], .agg #[.int .i64 a3_0, .int .i64 a3_1]] w fun e w' => e = .returned (.bool r) ∧ Below w.heap.size w w' := by
 have hu26 := Try.underlying26
 have hu29 := Try.underlying29
 have hu31 := Try.underlying31
 have HR0_1 := Aside0.mk hr0_1
 have HC0_1 := Aside0.mk hc0_1
 clear hr0_1 hc0_1
 have HR0_2 := Aside0.mk hr0_2
 have HC0_2 := Aside0.mk hc0_2
 clear hr0_2 hc0_2
 have HR0_3 := Aside0.mk hr0_3
 have HC0_3 := Aside0.mk hc0_3
 clear hr0_3 hc0_3
 have HR1_1 := Aside0.mk hr1_1
 have HC1_1 := Aside0.mk hc1_1
 clear hr1_1 hc1_1
 have HR2_1 := Aside0.mk hr2_1
 have HC2_1 := Aside0.mk hc2_1
 clear hr2_1 hc2_1
 have HB := Aside0.mk (Below.refl w.heap.size w)
 have H : ((warrantorlaw13_large.f k a0_0 l0_1 l0_2 l0_3 l1_1 ([] : List (S31))).bind fun t304 => (if t304 = true then (warrantorlaw13_RunSteps.j0 k true a0_0 l0_1 l0_2 l0_3 a1_0 l1_1 a2_0 l2_1 a3_0 a3_1) else (warrantorlaw13_RunSteps.j0 k (decide ((l2_1.length : Int) > 20)) a0_0 l0_1 l0_2 l0_3 a1_0 l1_1 a2_0 l2_1 a3_0 a3_1))) = some r := h
 clear h
 have HC5 := Aside0.mk H
 clear H
 go_enter Try.func3, Try.ntmps3
 go_upto_region 1 with (first | ((with_reducible refine gate_dst (N := 4) rfl ?_); (try (refine gate_guard (by rfl) ?_; dsimp only)); refine box_event ?hg (N := 4) ?hd (cs := #[.string a0_0, .slice A0_1 l0_1.length c0_1, .slice A0_2 l0_2.length c0_2, .slice A0_3 l0_3.length c0_3]) (t := 26) ?hr ?_; (case hd => rfl); (case hg => rfl); (case hr => first | (go_simp; done) | (go_simp; rfl)); intro gb300 hg w6 hbox hb; have n0_ := Aside0.mk (below_step HB_ hb); have n1_ := Aside0.mk (hbox); have n2_ := Aside0.mk ((by rw [hg]; exact (below_size HB_) : w.heap.size ≤ gb300)); have n3_ := Aside0.mk ((by rw [hg]; exact (below_size HB_) : w.heap.size ≤ gb300)); clear HB; have HB := n0_; have BK300 := n1_; have GW300 := n2_; have GE300 := n3_; clear n0_ n1_ n2_ n3_; clear hb hbox hg) | ((with_reducible refine gate_dst (N := 5) rfl ?_); (try (refine gate_guard (by rfl) ?_; dsimp only)); refine box_event ?hg (N := 5) ?hd (cs := #[.int .i64 a1_0, .slice A1_1 l1_1.length c1_1]) (t := 29) ?hr ?_; (case hd => rfl); (case hg => rfl); (case hr => first | (go_simp; done) | (go_simp; rfl)); intro gb301 hg w7 hbox hb; have n0_ := Aside0.mk (blk_below (g := gb300) (o := .cells #[.string a0_0, .slice A0_1 l0_1.length c0_1, .slice A0_2 l0_2.length c0_2, .slice A0_3 l0_3.length c0_3] 26 (0, 0)) (bk_ BK300.out) hb); have n1_ := Aside0.mk (below_step HB_ hb); have n2_ := Aside0.mk (hbox); have n3_ := Aside0.mk ((by rw [hg]; exact (below_size HB_) : w.heap.size ≤ gb301)); have n4_ := Aside0.mk ((by rw [hg]; exact (below_size HB_) : w.heap.size ≤ gb301)); have n5_ := Aside0.mk ((by rw [hg]; exact Nat.ne_of_lt (blk_lt (g := gb300) (o := .cells #[.string a0_0, .slice A0_1 l0_1.length c0_1, .slice A0_2 l0_2.length c0_2, .slice A0_3 l0_3.length c0_3] 26 (0, 0)) (bk_ BK300.out)) : gb300 ≠ gb301)); have n6_ := Aside0.mk ((by rw [hg]; exact Nat.ne_of_gt (blk_lt (g := gb300) (o := .cells #[.string a0_0, .slice A0_1 l0_1.length c0_1, .slice A0_2 l0_2.length c0_2, .slice A0_3 l0_3.length c0_3] 26 (0, 0)) (bk_ BK300.out)) : gb301 ≠ gb300)); clear BK300; clear HB; have BK300 := n0_; have HB := n1_; have BK301 := n2_; have GW301 := n3_; have GE301 := n4_; have NB300_301 := n5_; have NB301_300 := n6_; clear n0_ n1_ n2_ n3_ n4_ n5_ n6_; clear hb hbox hg) | ((with_reducible refine gate_dst (N := 6) rfl ?_); (try (refine gate_guard (by rfl) ?_; dsimp only)); refine box_event ?hg (N := 6) ?hd (cs := #[.int .i64 a2_0, .slice A2_1 l2_1.length c2_1]) (t := 29) ?hr ?_; (case hd => rfl); (case hg => rfl); (case hr => first | (go_simp; done) | (go_simp; rfl)); intro gb302 hg w8 hbox hb; have n0_ := Aside0.mk (blk_below (g := gb300) (o := .cells #[.string a0_0, .slice A0_1 l0_1.length c0_1, .slice A0_2 l0_2.length c0_2, .slice A0_3 l0_3.length c0_3] 26 (0, 0)) (bk_ BK300.out) hb); have n1_ := Aside0.mk (blk_below (g := gb301) (o := .cells #[.int .i64 a1_0, .slice A1_1 l1_1.length c1_1] 29 (0, 0)) (bk_ BK301.out) hb); have n2_ := Aside0.mk (below_step HB_ hb); have n3_ := Aside0.mk (hbox); have n4_ := Aside0.mk ((by rw [hg]; exact (below_size HB_) : w.heap.size ≤ gb302)); have n5_ := Aside0.mk ((by rw [hg]; exact (below_size HB_) : w.heap.size ≤ gb302)); have n6_ := Aside0.mk ((by rw [hg]; exact Nat.ne_of_lt (blk_lt (g := gb300) (o := .cells #[.string a0_0, .slice A0_1 l0_1.length c0_1, .slice A0_2 l0_2.length c0_2, .slice A0_3 l0_3.length c0_3] 26 (0, 0)) (bk_ BK300.out)) : gb300 ≠ gb302)); have n7_ := Aside0.mk ((by rw [hg]; exact Nat.ne_of_gt (blk_lt (g := gb300) (o := .cells #[.string a0_0, .slice A0_1 l0_1.length c0_1, .slice A0_2 l0_2.length c0_2, .slice A0_3 l0_3.length c0_3] 26 (0, 0)) (bk_ BK300.out)) : gb302 ≠ gb300)); have n8_ := Aside0.mk ((by rw [hg]; exact Nat.ne_of_lt (blk_lt (g := gb301) (o := .cells #[.int .i64 a1_0, .slice A1_1 l1_1.length c1_1] 29 (0, 0)) (bk_ BK301.out)) : gb301 ≠ gb302)); have n9_ := Aside0.mk ((by rw [hg]; exact Nat.ne_of_gt (blk_lt (g := gb301) (o := .cells #[.int .i64 a1_0, .slice A1_1 l1_1.length c1_1] 29 (0, 0)) (bk_ BK301.out)) : gb302 ≠ gb301)); clear BK300; clear BK301; clear HB; have BK300 := n0_; have BK301 := n1_; have HB := n2_; have BK302 := n3_; have GW302 := n4_; have GE302 := n5_; have NB300_302 := n6_; have NB302_300 := n7_; have NB301_302 := n8_; have NB302_301 := n9_; clear n0_ n1_ n2_ n3_ n4_ n5_ n6_ n7_ n8_ n9_; clear hb hbox hg) | ((with_reducible refine gate_dst (N := 7) rfl ?_); (try (refine gate_guard (by rfl) ?_; dsimp only)); refine box_event ?hg (N := 7) ?hd (cs := #[.int .i64 a3_0, .int .i64 a3_1]) (t := 31) ?hr ?_; (case hd => rfl); (case hg => rfl); (case hr => first | (go_simp; done) | (go_simp; rfl)); intro gb303 hg w9 hbox hb; have n0_ := Aside0.mk (blk_below (g := gb300) (o := .cells #[.string a0_0, .slice A0_1 l0_1.length c0_1, .slice A0_2 l0_2.length c0_2, .slice A0_3 l0_3.length c0_3] 26 (0, 0)) (bk_ BK300.out) hb); have n1_ := Aside0.mk (blk_below (g := gb301) (o := .cells #[.int .i64 a1_0, .slice A1_1 l1_1.length c1_1] 29 (0, 0)) (bk_ BK301.out) hb); have n2_ := Aside0.mk (blk_below (g := gb302) (o := .cells #[.int .i64 a2_0, .slice A2_1 l2_1.length c2_1] 29 (0, 0)) (bk_ BK302.out) hb); have n3_ := Aside0.mk (below_step HB_ hb); have n4_ := Aside0.mk (hbox); have n5_ := Aside0.mk ((by rw [hg]; exact (below_size HB_) : w.heap.size ≤ gb303)); have n6_ := Aside0.mk ((by rw [hg]; exact (below_size HB_) : w.heap.size ≤ gb303)); have n7_ := Aside0.mk ((by rw [hg]; exact Nat.ne_of_lt (blk_lt (g := gb300) (o := .cells #[.string a0_0, .slice A0_1 l0_1.length c0_1, .slice A0_2 l0_2.length c0_2, .slice A0_3 l0_3.length c0_3] 26 (0, 0)) (bk_ BK300.out)) : gb300 ≠ gb303)); have n8_ := Aside0.mk ((by rw [hg]; exact Nat.ne_of_gt (blk_lt (g := gb300) (o := .cells #[.string a0_0, .slice A0_1 l0_1.length c0_1, .slice A0_2 l0_2.length c0_2, .slice A0_3 l0_3.length c0_3] 26 (0, 0)) (bk_ BK300.out)) : gb303 ≠ gb300)); have n9_ := Aside0.mk ((by rw [hg]; exact Nat.ne_of_lt (blk_lt (g := gb301) (o := .cells #[.int .i64 a1_0, .slice A1_1 l1_1.length c1_1] 29 (0, 0)) (bk_ BK301.out)) : gb301 ≠ gb303)); have n10_ := Aside0.mk ((by rw [hg]; exact Nat.ne_of_gt (blk_lt (g := gb301) (o := .cells #[.int .i64 a1_0, .slice A1_1 l1_1.length c1_1] 29 (0, 0)) (bk_ BK301.out)) : gb303 ≠ gb301)); have n11_ := Aside0.mk ((by rw [hg]; exact Nat.ne_of_lt (blk_lt (g := gb302) (o := .cells #[.int .i64 a2_0, .slice A2_1 l2_1.length c2_1] 29 (0, 0)) (bk_ BK302.out)) : gb302 ≠ gb303)); have n12_ := Aside0.mk ((by rw [hg]; exact Nat.ne_of_gt (blk_lt (g := gb302) (o := .cells #[.int .i64 a2_0, .slice A2_1 l2_1.length c2_1] 29 (0, 0)) (bk_ BK302.out)) : gb303 ≠ gb302)); clear BK300; clear BK301; clear BK302; clear HB; have BK300 := n0_; have BK301 := n1_; have BK302 := n2_; have HB := n3_; have BK303 := n4_; have GW303 := n5_; have GE303 := n6_; have NB300_303 := n7_; have NB303_300 := n8_; have NB301_303 := n9_; have NB303_301 := n10_; have NB302_303 := n11_; have NB303_302 := n12_; clear n0_ n1_ n2_ n3_ n4_ n5_ n6_ n7_ n8_ n9_ n10_ n11_ n12_; clear hb hbox hg))
 (try simp only [Act.put, List.setIfInBounds_toArray, List.set_cons_zero, List.set_cons_succ])
 go_cut [22] (fun v22 wc => ∃ (kq : Nat) (x22_4 : Bool), v22 = .bool x22_4 ∧ Aside0 (warrantorlaw13_RunSteps.j0 kq x22_4 a0_0 l0_1 l0_2 l0_3 a1_0 l1_1 a2_0 l2_1 a3_0 a3_1 = some r) ∧ Aside0 (kq ≤ k) ∧ Aside0 (wc.heap[gb300]? = some (.cells #[.string a0_0, (.slice A0_1 l0_1.length c0_1), (.slice A0_2 l0_2.length c0_2), (.slice A0_3 l0_3.length c0_3)] 26 (0, 0))) ∧ Aside0 (wc.heap[gb301]? = some (.cells #[.int .i64 a1_0, (.slice A1_1 l1_1.length c1_1)] 29 (0, 0))) ∧ Aside0 (wc.heap[gb302]? = some (.cells #[.int .i64 a2_0, (.slice A2_1 l2_1.length c2_1)] 29 (0, 0))) ∧ Aside0 (wc.heap[gb303]? = some (.cells #[.int .i64 a3_0, .int .i64 a3_1] 31 (0, 0))) ∧ Aside0 (Below w.heap.size w wc))
 case first =>
  have H := HC5.out
  clear HC5
  replace H := Option.bind_eq_some_iff.mp H
  obtain ⟨t304, A100, H⟩ := H
  replace H : (if t304 = true then (warrantorlaw13_RunSteps.j0 k true a0_0 l0_1 l0_2 l0_3 a1_0 l1_1 a2_0 l2_1 a3_0 a3_1) else (warrantorlaw13_RunSteps.j0 k (decide ((l2_1.length : Int) > 20)) a0_0 l0_1 l0_2 l0_3 a1_0 l1_1 a2_0 l2_1 a3_0 a3_1)) = some r := H
  have A10 := Aside0.mk A100
  clear A100
  by_cases c11 : t304 = true
  · subst c11
    have H1 : (warrantorlaw13_RunSteps.j0 k true a0_0 l0_1 l0_2 l0_3 a1_0 l1_1 a2_0 l2_1 a3_0 a3_1) = some r := by rw [if_pos rfl] at H; exact H
    clear H
    have H := H1
    clear H1
    have H' := Aside0.mk H
    clear H
    have hnb12 := NB300_301.out
    have hnc12 := NB301_300.out
    have hnb13 := NB300_302.out
    have hnc13 := NB302_300.out
    have hnb14 := NB300_303.out
    have hnc14 := NB303_300.out
    have hcz15_0 : w9.cell? ⟨gb300, 0, none⟩ = some (.string a0_0) := (blk_cell BK300.out 0).trans rfl
    have hcz15_1 : w9.cell? ⟨gb300, 1, none⟩ = some (.slice A0_1 l0_1.length c0_1) := (blk_cell BK300.out 1).trans rfl
    have hcz15_2 : w9.cell? ⟨gb300, 2, none⟩ = some (.slice A0_2 l0_2.length c0_2) := (blk_cell BK300.out 2).trans rfl
    have hcz15_3 : w9.cell? ⟨gb300, 3, none⟩ = some (.slice A0_3 l0_3.length c0_3) := (blk_cell BK300.out 3).trans rfl
    have hfz15_0 := blk_frozen BK300.out 0
    have hfz15_1 := blk_frozen BK300.out 1
    have hfz15_2 := blk_frozen BK300.out 2
    have hfz15_3 := blk_frozen BK300.out 3
    have hnb16 := NB301_302.out
    have hnc16 := NB302_301.out
    have hnb17 := NB301_303.out
    have hnc17 := NB303_301.out
    have hcz18_0 : w9.cell? ⟨gb301, 0, none⟩ = some (.int .i64 a1_0) := (blk_cell BK301.out 0).trans rfl
    have hcz18_1 : w9.cell? ⟨gb301, 1, none⟩ = some (.slice A1_1 l1_1.length c1_1) := (blk_cell BK301.out 1).trans rfl
    have hfz18_0 := blk_frozen BK301.out 0
    have hfz18_1 := blk_frozen BK301.out 1
    go_wp2_with (first | ((with_reducible refine gate_callee (f := 6) rfl ?_); refine goesL_ (some 16) rfl rfl Try.func6 (by kernel_rfl) rfl #[.agg #[.string a0_0, .slice A0_1 l0_1.length c0_1, .slice A0_2 l0_2.length c0_2, .slice A0_3 l0_3.length c0_3], .slice A1_1 l1_1.length c1_1, .slice none 0 0] rfl MP_ ?_; (refine (warrantorlaw13_large.calls k a0_0 _ _ l0_1 _ _ l0_2 _ _ l0_3 _ _ l1_1 _ _ ([] : List (S31)) true _ ?side1 ?side2 ?side3 ?side4 ?side5 ?side6 ?side7 ?side8 ?side9 ?side10 A10.out).mono ?_); (case side1 => repeat (first | exact (Kd.C_below HR0_1.out HB.out) | (with_reducible refine Kd.C_alloc ?_ _) | (with_reducible refine Kd.C_drewN ?_ _) | (with_reducible refine Kd.C_drew ?_))); (case side2 => exact HC0_1.out); (case side3 => repeat (first | exact (Kd.C_below HR0_2.out HB.out) | (with_reducible refine Kd.C_alloc ?_ _) | (with_reducible refine Kd.C_drewN ?_ _) | (with_reducible refine Kd.C_drew ?_))); (case side4 => exact HC0_2.out); (case side5 => repeat (first | exact (Kd.C_below HR0_3.out HB.out) | (with_reducible refine Kd.C_alloc ?_ _) | (with_reducible refine Kd.C_drewN ?_ _) | (with_reducible refine Kd.C_drew ?_))); (case side6 => exact HC0_3.out); (case side7 => repeat (first | exact (Kd.C_below HR1_1.out HB.out) | (with_reducible refine Kd.C_alloc ?_ _) | (with_reducible refine Kd.C_drewN ?_ _) | (with_reducible refine Kd.C_drew ?_))); (case side8 => exact HC1_1.out); (case side9 => exact Kd.C_nil _ _); (case side10 => exact Nat.le_refl _); rintro e w19 ⟨rfl, hb⟩; refine ⟨_, rfl, ?_⟩; have n0_ := Aside0.mk (blk_below (g := gb300) (o := .cells #[.string a0_0, .slice A0_1 l0_1.length c0_1, .slice A0_2 l0_2.length c0_2, .slice A0_3 l0_3.length c0_3] 26 (0, 0)) (bk_ BK300.out) hb); have n1_ := Aside0.mk (blk_below (g := gb301) (o := .cells #[.int .i64 a1_0, .slice A1_1 l1_1.length c1_1] 29 (0, 0)) (bk_ BK301.out) hb); have n2_ := Aside0.mk (blk_below (g := gb302) (o := .cells #[.int .i64 a2_0, .slice A2_1 l2_1.length c2_1] 29 (0, 0)) (bk_ BK302.out) hb); have n3_ := Aside0.mk (blk_below (g := gb303) (o := .cells #[.int .i64 a3_0, .int .i64 a3_1] 31 (0, 0)) (bk_ BK303.out) hb); have n4_ := Aside0.mk (below_step HB_ hb); clear BK300; clear BK301; clear BK302; clear BK303; clear HB; have BK300 := n0_; have BK301 := n1_; have BK302 := n2_; have BK303 := n3_; have HB := n4_; clear n0_ n1_ n2_ n3_ n4_; (try clear hb); (try clear hb2); (try clear hk); (try clear hi)))
    go_meet
    case rel => exact ⟨_, (true), (by first | rfl | (simp; done) | (simp [*]; done)), H', ⟨by first | omega | exact Nat.le_refl _⟩, ⟨by (with_reducible repeat (first | refine blk_drewN ?_ _ | refine blk_drew ?_ | refine blk_alloc ?_ _)); exact BK300.out⟩, ⟨by (with_reducible repeat (first | refine blk_drewN ?_ _ | refine blk_drew ?_ | refine blk_alloc ?_ _)); exact BK301.out⟩, ⟨by (with_reducible repeat (first | refine blk_drewN ?_ _ | refine blk_drew ?_ | refine blk_alloc ?_ _)); exact BK302.out⟩, ⟨by (with_reducible repeat (first | refine blk_drewN ?_ _ | refine blk_drew ?_ | refine blk_alloc ?_ _)); exact BK303.out⟩, ⟨HB_⟩⟩
  replace c11 := Bool.eq_false_iff.mpr c11
  subst c11
  have H1 : (warrantorlaw13_RunSteps.j0 k (decide ((l2_1.length : Int) > 20)) a0_0 l0_1 l0_2 l0_3 a1_0 l1_1 a2_0 l2_1 a3_0 a3_1) = some r := by rw [if_neg (show ¬ (false = true) by decide)] at H; exact H
  clear H
  have H := H1
  clear H1
  have H' := Aside0.mk H
  clear H
  have hnb20 := NB300_301.out
  have hnc20 := NB301_300.out
  have hnb21 := NB300_302.out
  have hnc21 := NB302_300.out
  have hnb22 := NB300_303.out
  have hnc22 := NB303_300.out
  have hcz23_0 : w9.cell? ⟨gb300, 0, none⟩ = some (.string a0_0) := (blk_cell BK300.out 0).trans rfl
  have hcz23_1 : w9.cell? ⟨gb300, 1, none⟩ = some (.slice A0_1 l0_1.length c0_1) := (blk_cell BK300.out 1).trans rfl
  have hcz23_2 : w9.cell? ⟨gb300, 2, none⟩ = some (.slice A0_2 l0_2.length c0_2) := (blk_cell BK300.out 2).trans rfl
  have hcz23_3 : w9.cell? ⟨gb300, 3, none⟩ = some (.slice A0_3 l0_3.length c0_3) := (blk_cell BK300.out 3).trans rfl
  have hfz23_0 := blk_frozen BK300.out 0
  have hfz23_1 := blk_frozen BK300.out 1
  have hfz23_2 := blk_frozen BK300.out 2
  have hfz23_3 := blk_frozen BK300.out 3
  have hnb24 := NB301_302.out
  have hnc24 := NB302_301.out
  have hnb25 := NB301_303.out
  have hnc25 := NB303_301.out
  have hcz26_0 : w9.cell? ⟨gb301, 0, none⟩ = some (.int .i64 a1_0) := (blk_cell BK301.out 0).trans rfl
  have hcz26_1 : w9.cell? ⟨gb301, 1, none⟩ = some (.slice A1_1 l1_1.length c1_1) := (blk_cell BK301.out 1).trans rfl
  have hfz26_0 := blk_frozen BK301.out 0
  have hfz26_1 := blk_frozen BK301.out 1
  go_wp2_with (first | ((with_reducible refine gate_callee (f := 6) rfl ?_); refine goesL_ (some 16) rfl rfl Try.func6 (by kernel_rfl) rfl #[.agg #[.string a0_0, .slice A0_1 l0_1.length c0_1, .slice A0_2 l0_2.length c0_2, .slice A0_3 l0_3.length c0_3], .slice A1_1 l1_1.length c1_1, .slice none 0 0] rfl MP_ ?_; (refine (warrantorlaw13_large.calls k a0_0 _ _ l0_1 _ _ l0_2 _ _ l0_3 _ _ l1_1 _ _ ([] : List (S31)) false _ ?side1 ?side2 ?side3 ?side4 ?side5 ?side6 ?side7 ?side8 ?side9 ?side10 A10.out).mono ?_); (case side1 => repeat (first | exact (Kd.C_below HR0_1.out HB.out) | (with_reducible refine Kd.C_alloc ?_ _) | (with_reducible refine Kd.C_drewN ?_ _) | (with_reducible refine Kd.C_drew ?_))); (case side2 => exact HC0_1.out); (case side3 => repeat (first | exact (Kd.C_below HR0_2.out HB.out) | (with_reducible refine Kd.C_alloc ?_ _) | (with_reducible refine Kd.C_drewN ?_ _) | (with_reducible refine Kd.C_drew ?_))); (case side4 => exact HC0_2.out); (case side5 => repeat (first | exact (Kd.C_below HR0_3.out HB.out) | (with_reducible refine Kd.C_alloc ?_ _) | (with_reducible refine Kd.C_drewN ?_ _) | (with_reducible refine Kd.C_drew ?_))); (case side6 => exact HC0_3.out); (case side7 => repeat (first | exact (Kd.C_below HR1_1.out HB.out) | (with_reducible refine Kd.C_alloc ?_ _) | (with_reducible refine Kd.C_drewN ?_ _) | (with_reducible refine Kd.C_drew ?_))); (case side8 => exact HC1_1.out); (case side9 => exact Kd.C_nil _ _); (case side10 => exact Nat.le_refl _); rintro e w27 ⟨rfl, hb⟩; refine ⟨_, rfl, ?_⟩; have n0_ := Aside0.mk (blk_below (g := gb300) (o := .cells #[.string a0_0, .slice A0_1 l0_1.length c0_1, .slice A0_2 l0_2.length c0_2, .slice A0_3 l0_3.length c0_3] 26 (0, 0)) (bk_ BK300.out) hb); have n1_ := Aside0.mk (blk_below (g := gb301) (o := .cells #[.int .i64 a1_0, .slice A1_1 l1_1.length c1_1] 29 (0, 0)) (bk_ BK301.out) hb); have n2_ := Aside0.mk (blk_below (g := gb302) (o := .cells #[.int .i64 a2_0, .slice A2_1 l2_1.length c2_1] 29 (0, 0)) (bk_ BK302.out) hb); have n3_ := Aside0.mk (blk_below (g := gb303) (o := .cells #[.int .i64 a3_0, .int .i64 a3_1] 31 (0, 0)) (bk_ BK303.out) hb); have n4_ := Aside0.mk (below_step HB_ hb); clear BK300; clear BK301; clear BK302; clear BK303; clear HB; have BK300 := n0_; have BK301 := n1_; have BK302 := n2_; have BK303 := n3_; have HB := n4_; clear n0_ n1_ n2_ n3_ n4_; (try clear hb); (try clear hb2); (try clear hk); (try clear hi); have hnb28 := NB302_303.out; have hnc28 := NB303_302.out; have hcz29_0 : w27.cell? ⟨gb302, 0, none⟩ = some (.int .i64 a2_0) := (blk_cell BK302.out 0).trans rfl; have hcz29_1 : w27.cell? ⟨gb302, 1, none⟩ = some (.slice A2_1 l2_1.length c2_1) := (blk_cell BK302.out 1).trans rfl; have hfz29_0 := blk_frozen BK302.out 0; have hfz29_1 := blk_frozen BK302.out 1))
  go_meet
  case rel => exact ⟨_, (decide ((l2_1.length : Int) > 20)), (by first | rfl | (simp; done) | (simp [*]; done)), H', ⟨by first | omega | exact Nat.le_refl _⟩, ⟨by (with_reducible repeat (first | refine blk_drewN ?_ _ | refine blk_drew ?_ | refine blk_alloc ?_ _)); exact BK300.out⟩, ⟨by (with_reducible repeat (first | refine blk_drewN ?_ _ | refine blk_drew ?_ | refine blk_alloc ?_ _)); exact BK301.out⟩, ⟨by (with_reducible repeat (first | refine blk_drewN ?_ _ | refine blk_drew ?_ | refine blk_alloc ?_ _)); exact BK302.out⟩, ⟨by (with_reducible repeat (first | refine blk_drewN ?_ _ | refine blk_drew ?_ | refine blk_alloc ?_ _)); exact BK303.out⟩, ⟨HB_⟩⟩
 case rest =>
  clear HC5
  try clear c1
  try clear c2
  try clear p2
  try clear c3
  try clear c6
  try clear c11
  try clear c12
  try clear c13
  try clear c14
  try clear c16
  try clear c17
  try clear c20
  try clear c21
  try clear c22
  try clear c24
  try clear c25
  try clear c28
  try clear hcz15_0
  try clear hcz15_1
  try clear hcz15_2
  try clear hcz15_3
  try clear hcz18_0
  try clear hcz18_1
  try clear hcz23_0
  try clear hcz23_1
  try clear hcz23_2
  try clear hcz23_3
  try clear hcz26_0
  try clear hcz26_1
  try clear hcz29_0
  try clear hcz29_1
  try clear hfz15_0
  try clear hfz15_1
  try clear hfz15_2
  try clear hfz15_3
  try clear hfz18_0
  try clear hfz18_1
  try clear hfz23_0
  try clear hfz23_1
  try clear hfz23_2
  try clear hfz23_3
  try clear hfz26_0
  try clear hfz26_1
  try clear hfz29_0
  try clear hfz29_1
  obtain ⟨kq, x22_4, rfl, HA, HJ4, BK300, BK301, BK302, BK303, HB⟩ := hcut
  cases kq with
  | zero => exact absurd HA.out (by simp [warrantorlaw13_RunSteps.j0])
  | succ kj4 =>
    have H := HA.out
    clear HA
    simp only [warrantorlaw13_RunSteps.j0] at H
    by_cases c30 : x22_4 = true
    · subst c30
      have H1 : ((warrantorlaw13_lives.f kj4).bind fun t305 => (some t305)) = some r := by rw [if_pos rfl] at H; exact H
      clear H
      have H := H1
      clear H1
      replace H := Option.bind_eq_some_iff.mp H
      obtain ⟨t305, A310, H⟩ := H
      replace H : (some t305) = some r := H
      have A31 := Aside0.mk A310
      clear A310
      obtain rfl := Option.some.inj H
      go_wp2_with (first | ((with_reducible refine gate_callee (f := 7) rfl ?_); refine goesL_ (some 23) rfl rfl Try.func7 (by kernel_rfl) rfl #[] rfl MP_ ?_; (with_reducible refine (warrantorlaw13_lives.calls kj4  t305 _ A31.out).mono ?_); rintro e w32 ⟨rfl, hb⟩; refine ⟨_, rfl, ?_⟩; have n0_ := Aside0.mk (blk_below (g := gb300) (o := .cells #[.string a0_0, .slice A0_1 l0_1.length c0_1, .slice A0_2 l0_2.length c0_2, .slice A0_3 l0_3.length c0_3] 26 (0, 0)) (bk_ BK300.out) hb); have n1_ := Aside0.mk (blk_below (g := gb301) (o := .cells #[.int .i64 a1_0, .slice A1_1 l1_1.length c1_1] 29 (0, 0)) (bk_ BK301.out) hb); have n2_ := Aside0.mk (blk_below (g := gb302) (o := .cells #[.int .i64 a2_0, .slice A2_1 l2_1.length c2_1] 29 (0, 0)) (bk_ BK302.out) hb); have n3_ := Aside0.mk (blk_below (g := gb303) (o := .cells #[.int .i64 a3_0, .int .i64 a3_1] 31 (0, 0)) (bk_ BK303.out) hb); have n4_ := Aside0.mk (below_step HB_ hb); clear BK300; clear BK301; clear BK302; clear BK303; clear HB; have BK300 := n0_; have BK301 := n1_; have BK302 := n2_; have BK303 := n3_; have HB := n4_; clear n0_ n1_ n2_ n3_ n4_; (try clear hb); (try clear hb2); (try clear hk); (try clear hi)))
      go_ret
      exact ⟨by first | rfl | (simp [errW_none, errW_some] <;> rfl) | (simp [*, errW_none, errW_some] <;> rfl), HB_⟩
    replace c30 := Bool.eq_false_iff.mpr c30
    subst c30
    have H1 : ((run_Step.f a0_0 l0_1 l0_2 l0_3 a1_0 l1_1 a3_0 a3_1).bind fun bt306 => ((warrantorlaw13_lives.f kj4).bind fun t312 => (if t312 = true then ((run_Same.f kj4 a1_0 l1_1 a2_0 l2_1).bind fun t313 => ((warrantorref13_Same.f kj4 a1_0 l1_1 a2_0 l2_1).bind fun t314 => (warrantorlaw13_RunSteps.j1 kj4 bt306.2.2 (t313 != t314) a0_0 l0_1 l0_2 l0_3 a1_0 l1_1 a3_0 a3_1 bt306.1 bt306.2.1))) else (warrantorlaw13_RunSteps.j1 kj4 bt306.2.2 true a0_0 l0_1 l0_2 l0_3 a1_0 l1_1 a3_0 a3_1 bt306.1 bt306.2.1)))) = some r := by rw [if_neg (show ¬ (false = true) by decide)] at H; exact H
    clear H
    have H := H1
    clear H1
    replace H := Option.bind_eq_some_iff.mp H
    obtain ⟨⟨t306, t307, t310⟩, A330, H⟩ := H
    replace H : ((warrantorlaw13_lives.f kj4).bind fun t312 => (if t312 = true then ((run_Same.f kj4 a1_0 l1_1 a2_0 l2_1).bind fun t313 => ((warrantorref13_Same.f kj4 a1_0 l1_1 a2_0 l2_1).bind fun t314 => (warrantorlaw13_RunSteps.j1 kj4 t310 (t313 != t314) a0_0 l0_1 l0_2 l0_3 a1_0 l1_1 a3_0 a3_1 t306 t307))) else (warrantorlaw13_RunSteps.j1 kj4 t310 true a0_0 l0_1 l0_2 l0_3 a1_0 l1_1 a3_0 a3_1 t306 t307))) = some r := H
    have A33 := Aside0.mk A330
    clear A330
    have HC34 := Aside0.mk H
    clear H
    have hnb35 := NB300_301.out
    have hnc35 := NB301_300.out
    have hnb36 := NB300_302.out
    have hnc36 := NB302_300.out
    have hnb37 := NB300_303.out
    have hnc37 := NB303_300.out
    have hcz38_0 : wc.cell? ⟨gb300, 0, none⟩ = some (.string a0_0) := (blk_cell BK300.out 0).trans rfl
    have hcz38_1 : wc.cell? ⟨gb300, 1, none⟩ = some (.slice A0_1 l0_1.length c0_1) := (blk_cell BK300.out 1).trans rfl
    have hcz38_2 : wc.cell? ⟨gb300, 2, none⟩ = some (.slice A0_2 l0_2.length c0_2) := (blk_cell BK300.out 2).trans rfl
    have hcz38_3 : wc.cell? ⟨gb300, 3, none⟩ = some (.slice A0_3 l0_3.length c0_3) := (blk_cell BK300.out 3).trans rfl
    have hfz38_0 := blk_frozen BK300.out 0
    have hfz38_1 := blk_frozen BK300.out 1
    have hfz38_2 := blk_frozen BK300.out 2
    have hfz38_3 := blk_frozen BK300.out 3
    have hnb39 := NB301_302.out
    have hnc39 := NB302_301.out
    have hnb40 := NB301_303.out
    have hnc40 := NB303_301.out
    have hcz41_0 : wc.cell? ⟨gb301, 0, none⟩ = some (.int .i64 a1_0) := (blk_cell BK301.out 0).trans rfl
    have hcz41_1 : wc.cell? ⟨gb301, 1, none⟩ = some (.slice A1_1 l1_1.length c1_1) := (blk_cell BK301.out 1).trans rfl
    have hfz41_0 := blk_frozen BK301.out 0
    have hfz41_1 := blk_frozen BK301.out 1
    have hnb42 := NB303_302.out
    have hnc42 := NB302_303.out
    have hcz43_0 : wc.cell? ⟨gb303, 0, none⟩ = some (.int .i64 a3_0) := (blk_cell BK303.out 0).trans rfl
    have hcz43_1 : wc.cell? ⟨gb303, 1, none⟩ = some (.int .i64 a3_1) := (blk_cell BK303.out 1).trans rfl
    have hfz43_0 := blk_frozen BK303.out 0
    have hfz43_1 := blk_frozen BK303.out 1
    go_upto_region 4 with (first | ((with_reducible refine gate_callee (f := 8) rfl ?_); refine goesL_ (some 28) rfl rfl Try.func8 (by kernel_rfl) rfl #[.agg #[.string a0_0, .slice A0_1 l0_1.length c0_1, .slice A0_2 l0_2.length c0_2, .slice A0_3 l0_3.length c0_3], .agg #[.int .i64 a1_0, .slice A1_1 l1_1.length c1_1], .agg #[.int .i64 a3_0, .int .i64 a3_1]] rfl MP_ ?_; (with_reducible refine (run_Step.calls a0_0 _ _ l0_1 _ _ l0_2 _ _ l0_3 a1_0 _ _ l1_1 a3_0 a3_1 t306 t307 t310 _ ?side1 ?side2 ?side3 ?side4 ?side5 ?side6 ?side7 ?side8 A33.out).mono ?_); (case side1 => repeat (first | exact (Kd.C_below HR0_1.out HB.out) | (with_reducible refine Kd.C_alloc ?_ _) | (with_reducible refine Kd.C_drewN ?_ _) | (with_reducible refine Kd.C_drew ?_))); (case side2 => exact HC0_1.out); (case side3 => repeat (first | exact (Kd.C_below HR0_2.out HB.out) | (with_reducible refine Kd.C_alloc ?_ _) | (with_reducible refine Kd.C_drewN ?_ _) | (with_reducible refine Kd.C_drew ?_))); (case side4 => exact HC0_2.out); (case side5 => repeat (first | exact (Kd.C_below HR0_3.out HB.out) | (with_reducible refine Kd.C_alloc ?_ _) | (with_reducible refine Kd.C_drewN ?_ _) | (with_reducible refine Kd.C_drew ?_))); (case side6 => exact HC0_3.out); (case side7 => repeat (first | exact (Kd.C_below HR1_1.out HB.out) | (with_reducible refine Kd.C_alloc ?_ _) | (with_reducible refine Kd.C_drewN ?_ _) | (with_reducible refine Kd.C_drew ?_))); (case side8 => exact HC1_1.out); rintro e w44 ⟨v308, rfl, ho0, hb⟩; refine ⟨_, rfl, ?_⟩; have n0_ := Aside0.mk (Kd.R_lower ho0 (below_size HB_)); have n1_ := Aside0.mk (blk_below (g := gb300) (o := .cells #[.string a0_0, .slice A0_1 l0_1.length c0_1, .slice A0_2 l0_2.length c0_2, .slice A0_3 l0_3.length c0_3] 26 (0, 0)) (bk_ BK300.out) hb); have n2_ := Aside0.mk (blk_below (g := gb301) (o := .cells #[.int .i64 a1_0, .slice A1_1 l1_1.length c1_1] 29 (0, 0)) (bk_ BK301.out) hb); have n3_ := Aside0.mk (blk_below (g := gb302) (o := .cells #[.int .i64 a2_0, .slice A2_1 l2_1.length c2_1] 29 (0, 0)) (bk_ BK302.out) hb); have n4_ := Aside0.mk (blk_below (g := gb303) (o := .cells #[.int .i64 a3_0, .int .i64 a3_1] 31 (0, 0)) (bk_ BK303.out) hb); have n5_ := Aside0.mk (below_step HB_ hb); clear BK300; clear BK301; clear BK302; clear BK303; clear HB; have HO309 := n0_; have BK300 := n1_; have BK301 := n2_; have BK302 := n3_; have BK303 := n4_; have HB := n5_; clear n0_ n1_ n2_ n3_ n4_ n5_; (try clear hb); (try clear hb2); (try clear hk); (try clear hi); (try clear ho0)) | ((with_reducible refine gate_dst (N := 9) rfl ?_); (try (refine gate_guard (by rfl) ?_; dsimp only)); refine box_event ?hg (N := 9) ?hd (cs := #[.int .i64 0, .slice none 0 0]) (t := 29) ?hr ?_; (case hd => rfl); (case hg => rfl); (case hr => first | (go_simp; done) | (go_simp; rfl)); intro gb311 hg w45 hbox hb; have n0_ := Aside0.mk (Kd.R_below (by (with_reducible repeat (first | apply Kd.R_alloc | apply Kd.R_drewN | apply Kd.R_drew)); exact HO309.out) hb); have n1_ := Aside0.mk (blk_below (g := gb300) (o := .cells #[.string a0_0, .slice A0_1 l0_1.length c0_1, .slice A0_2 l0_2.length c0_2, .slice A0_3 l0_3.length c0_3] 26 (0, 0)) (bk_ BK300.out) hb); have n2_ := Aside0.mk (blk_below (g := gb301) (o := .cells #[.int .i64 a1_0, .slice A1_1 l1_1.length c1_1] 29 (0, 0)) (bk_ BK301.out) hb); have n3_ := Aside0.mk (blk_below (g := gb302) (o := .cells #[.int .i64 a2_0, .slice A2_1 l2_1.length c2_1] 29 (0, 0)) (bk_ BK302.out) hb); have n4_ := Aside0.mk (blk_below (g := gb303) (o := .cells #[.int .i64 a3_0, .int .i64 a3_1] 31 (0, 0)) (bk_ BK303.out) hb); have n5_ := Aside0.mk (below_step HB_ hb); have n6_ := Aside0.mk (hbox); have n7_ := Aside0.mk ((by rw [hg]; exact (below_size HB_) : w.heap.size ≤ gb311)); have n8_ := Aside0.mk ((by rw [hg]; exact (below_size HB_) : w.heap.size ≤ gb311)); have n9_ := Aside0.mk ((by rw [hg]; exact Nat.ne_of_lt (blk_lt (g := gb300) (o := .cells #[.string a0_0, .slice A0_1 l0_1.length c0_1, .slice A0_2 l0_2.length c0_2, .slice A0_3 l0_3.length c0_3] 26 (0, 0)) (bk_ BK300.out)) : gb300 ≠ gb311)); have n10_ := Aside0.mk ((by rw [hg]; exact Nat.ne_of_gt (blk_lt (g := gb300) (o := .cells #[.string a0_0, .slice A0_1 l0_1.length c0_1, .slice A0_2 l0_2.length c0_2, .slice A0_3 l0_3.length c0_3] 26 (0, 0)) (bk_ BK300.out)) : gb311 ≠ gb300)); have n11_ := Aside0.mk ((by rw [hg]; exact Nat.ne_of_lt (blk_lt (g := gb301) (o := .cells #[.int .i64 a1_0, .slice A1_1 l1_1.length c1_1] 29 (0, 0)) (bk_ BK301.out)) : gb301 ≠ gb311)); have n12_ := Aside0.mk ((by rw [hg]; exact Nat.ne_of_gt (blk_lt (g := gb301) (o := .cells #[.int .i64 a1_0, .slice A1_1 l1_1.length c1_1] 29 (0, 0)) (bk_ BK301.out)) : gb311 ≠ gb301)); have n13_ := Aside0.mk ((by rw [hg]; exact Nat.ne_of_lt (blk_lt (g := gb302) (o := .cells #[.int .i64 a2_0, .slice A2_1 l2_1.length c2_1] 29 (0, 0)) (bk_ BK302.out)) : gb302 ≠ gb311)); have n14_ := Aside0.mk ((by rw [hg]; exact Nat.ne_of_gt (blk_lt (g := gb302) (o := .cells #[.int .i64 a2_0, .slice A2_1 l2_1.length c2_1] 29 (0, 0)) (bk_ BK302.out)) : gb311 ≠ gb302)); have n15_ := Aside0.mk ((by rw [hg]; exact Nat.ne_of_lt (blk_lt (g := gb303) (o := .cells #[.int .i64 a3_0, .int .i64 a3_1] 31 (0, 0)) (bk_ BK303.out)) : gb303 ≠ gb311)); have n16_ := Aside0.mk ((by rw [hg]; exact Nat.ne_of_gt (blk_lt (g := gb303) (o := .cells #[.int .i64 a3_0, .int .i64 a3_1] 31 (0, 0)) (bk_ BK303.out)) : gb311 ≠ gb303)); clear HO309; clear BK300; clear BK301; clear BK302; clear BK303; clear HB; have HO309 := n0_; have BK300 := n1_; have BK301 := n2_; have BK302 := n3_; have BK303 := n4_; have HB := n5_; have BK311 := n6_; have GW311 := n7_; have GE311 := n8_; have NB300_311 := n9_; have NB311_300 := n10_; have NB301_311 := n11_; have NB311_301 := n12_; have NB302_311 := n13_; have NB311_302 := n14_; have NB303_311 := n15_; have NB311_303 := n16_; clear n0_ n1_ n2_ n3_ n4_ n5_ n6_ n7_ n8_ n9_ n10_ n11_ n12_ n13_ n14_ n15_ n16_; clear hb hbox hg; have hnb46 := NB311_300.out; have hnc46 := NB300_311.out; have hnb47 := NB311_301.out; have hnc47 := NB301_311.out; have hnb48 := NB311_302.out; have hnc48 := NB302_311.out; have hnb49 := NB311_303.out; have hnc49 := NB303_311.out; have hcz50_0 : w45.cell? ⟨gb311, 0, none⟩ = some (.int .i64 0) := (blk_cell BK311.out 0).trans rfl; have hcz50_1 : w45.cell? ⟨gb311, 1, none⟩ = some (.slice none 0 0) := (blk_cell BK311.out 1).trans rfl; have hfz50_0 := blk_frozen BK311.out 0; have hfz50_1 := blk_frozen BK311.out 1; obtain ⟨Ao51, co51, eo51⟩ := Kd.R_slice HO309.out; subst eo51))
    (try simp only [Act.put, List.setIfInBounds_toArray, List.set_cons_zero, List.set_cons_succ])
    go_cut [41] (fun v41 wc => ∃ (kq : Nat) (x41_33 : Bool), v41 = .bool x41_33 ∧ Aside0 (warrantorlaw13_RunSteps.j1 kq t310 x41_33 a0_0 l0_1 l0_2 l0_3 a1_0 l1_1 a3_0 a3_1 t306 t307 = some r) ∧ Aside0 (kq ≤ kj4) ∧ Aside0 (Kd.R (Kd.int .i64) 3 wc w.heap.size (fun _ => True) (.slice Ao51 t307.length co51) t307) ∧ Aside0 (wc.heap[gb300]? = some (.cells #[.string a0_0, (.slice A0_1 l0_1.length c0_1), (.slice A0_2 l0_2.length c0_2), (.slice A0_3 l0_3.length c0_3)] 26 (0, 0))) ∧ Aside0 (wc.heap[gb301]? = some (.cells #[.int .i64 a1_0, (.slice A1_1 l1_1.length c1_1)] 29 (0, 0))) ∧ Aside0 (wc.heap[gb302]? = some (.cells #[.int .i64 a2_0, (.slice A2_1 l2_1.length c2_1)] 29 (0, 0))) ∧ Aside0 (wc.heap[gb303]? = some (.cells #[.int .i64 a3_0, .int .i64 a3_1] 31 (0, 0))) ∧ Aside0 (wc.heap[gb311]? = some (.cells #[.int .i64 t306, (.slice Ao51 t307.length co51)] 29 (0, 0))) ∧ Aside0 (Below w.heap.size w wc))
    case first =>
      have H := HC34.out
      clear HC34
      replace H := Option.bind_eq_some_iff.mp H
      obtain ⟨t312, A520, H⟩ := H
      replace H : (if t312 = true then ((run_Same.f kj4 a1_0 l1_1 a2_0 l2_1).bind fun t313 => ((warrantorref13_Same.f kj4 a1_0 l1_1 a2_0 l2_1).bind fun t314 => (warrantorlaw13_RunSteps.j1 kj4 t310 (t313 != t314) a0_0 l0_1 l0_2 l0_3 a1_0 l1_1 a3_0 a3_1 t306 t307))) else (warrantorlaw13_RunSteps.j1 kj4 t310 true a0_0 l0_1 l0_2 l0_3 a1_0 l1_1 a3_0 a3_1 t306 t307)) = some r := H
      have A52 := Aside0.mk A520
      clear A520
      by_cases c53 : t312 = true
      rotate_left
      · replace c53 := Bool.eq_false_iff.mpr c53
        subst c53
        have H1 : (warrantorlaw13_RunSteps.j1 kj4 t310 true a0_0 l0_1 l0_2 l0_3 a1_0 l1_1 a3_0 a3_1 t306 t307) = some r := by rw [if_neg (show ¬ (false = true) by decide)] at H; exact H
        clear H
        have H := H1
        clear H1
        have H' := Aside0.mk H
        clear H
        try go_wp2
        have n0_ : Aside0 (Kd.R (Kd.int .i64) 3 ((w45.setCell ⟨gb311, 0, none⟩ (.int .i64 t306)).setCell ⟨gb311, 1, none⟩ (.slice Ao51 t307.length co51)) w.heap.size (fun _ => True) (.slice Ao51 t307.length co51) t307) := ⟨by (with_reducible repeat (first | apply Kd.R_alloc | apply Kd.R_drewN | apply Kd.R_drew)); exact Kd.R_mono (Kd.R_far (p := ⟨gb311, 1, none⟩) (Kd.R_far (p := ⟨gb311, 0, none⟩) (Kd.R_types HO309.out BK311.out (by decide)) (fun _ hk => hk.2) (.int .i64 t306)) (fun _ hk => hk.2) (.slice Ao51 t307.length co51)) (fun _ hk => trivial)⟩
        have n1_ : Aside0 (((w45.setCell ⟨gb311, 0, none⟩ (.int .i64 t306)).setCell ⟨gb311, 1, none⟩ (.slice Ao51 t307.length co51)).heap[gb300]? = some (.cells #[.string a0_0, .slice A0_1 l0_1.length c0_1, .slice A0_2 l0_2.length c0_2, .slice A0_3 l0_3.length c0_3] 26 (0, 0))) := ⟨by (with_reducible repeat (first | refine blk_drewN ?_ _ | refine blk_drew ?_ | refine blk_alloc ?_ _)); refine blk_far ?_ NB300_311.out _; (with_reducible repeat (first | refine blk_drewN ?_ _ | refine blk_drew ?_ | refine blk_alloc ?_ _)); refine blk_far ?_ NB300_311.out _; (with_reducible repeat (first | refine blk_drewN ?_ _ | refine blk_drew ?_ | refine blk_alloc ?_ _)); exact BK300.out⟩
        have n2_ : Aside0 (((w45.setCell ⟨gb311, 0, none⟩ (.int .i64 t306)).setCell ⟨gb311, 1, none⟩ (.slice Ao51 t307.length co51)).heap[gb301]? = some (.cells #[.int .i64 a1_0, .slice A1_1 l1_1.length c1_1] 29 (0, 0))) := ⟨by (with_reducible repeat (first | refine blk_drewN ?_ _ | refine blk_drew ?_ | refine blk_alloc ?_ _)); refine blk_far ?_ NB301_311.out _; (with_reducible repeat (first | refine blk_drewN ?_ _ | refine blk_drew ?_ | refine blk_alloc ?_ _)); refine blk_far ?_ NB301_311.out _; (with_reducible repeat (first | refine blk_drewN ?_ _ | refine blk_drew ?_ | refine blk_alloc ?_ _)); exact BK301.out⟩
        have n3_ : Aside0 (((w45.setCell ⟨gb311, 0, none⟩ (.int .i64 t306)).setCell ⟨gb311, 1, none⟩ (.slice Ao51 t307.length co51)).heap[gb302]? = some (.cells #[.int .i64 a2_0, .slice A2_1 l2_1.length c2_1] 29 (0, 0))) := ⟨by (with_reducible repeat (first | refine blk_drewN ?_ _ | refine blk_drew ?_ | refine blk_alloc ?_ _)); refine blk_far ?_ NB302_311.out _; (with_reducible repeat (first | refine blk_drewN ?_ _ | refine blk_drew ?_ | refine blk_alloc ?_ _)); refine blk_far ?_ NB302_311.out _; (with_reducible repeat (first | refine blk_drewN ?_ _ | refine blk_drew ?_ | refine blk_alloc ?_ _)); exact BK302.out⟩
        have n4_ : Aside0 (((w45.setCell ⟨gb311, 0, none⟩ (.int .i64 t306)).setCell ⟨gb311, 1, none⟩ (.slice Ao51 t307.length co51)).heap[gb303]? = some (.cells #[.int .i64 a3_0, .int .i64 a3_1] 31 (0, 0))) := ⟨by (with_reducible repeat (first | refine blk_drewN ?_ _ | refine blk_drew ?_ | refine blk_alloc ?_ _)); refine blk_far ?_ NB303_311.out _; (with_reducible repeat (first | refine blk_drewN ?_ _ | refine blk_drew ?_ | refine blk_alloc ?_ _)); refine blk_far ?_ NB303_311.out _; (with_reducible repeat (first | refine blk_drewN ?_ _ | refine blk_drew ?_ | refine blk_alloc ?_ _)); exact BK303.out⟩
        have n5_ : Aside0 (((w45.setCell ⟨gb311, 0, none⟩ (.int .i64 t306)).setCell ⟨gb311, 1, none⟩ (.slice Ao51 t307.length co51)).heap[gb311]? = some (.cells #[.int .i64 t306, .slice Ao51 t307.length co51] 29 (0, 0))) := ⟨by (with_reducible repeat (first | refine blk_drewN ?_ _ | refine blk_drew ?_ | refine blk_alloc ?_ _)); refine blk_put (cs := #[.int .i64 t306, .slice none 0 0]) ?_ 1 _ rfl; (with_reducible repeat (first | refine blk_drewN ?_ _ | refine blk_drew ?_ | refine blk_alloc ?_ _)); refine blk_put (cs := #[.int .i64 0, .slice none 0 0]) ?_ 0 _ rfl; (with_reducible repeat (first | refine blk_drewN ?_ _ | refine blk_drew ?_ | refine blk_alloc ?_ _)); exact BK311.out⟩
        have n6_ : Aside0 (Below w.heap.size w ((w45.setCell ⟨gb311, 0, none⟩ (.int .i64 t306)).setCell ⟨gb311, 1, none⟩ (.slice Ao51 t307.length co51))) := ⟨HB_⟩
        (try clear HO309)
        (try clear BK300)
        (try clear BK301)
        (try clear BK302)
        (try clear BK303)
        (try clear BK311)
        (try clear HB)
        generalize ((w45.setCell ⟨gb311, 0, none⟩ (.int .i64 t306)).setCell ⟨gb311, 1, none⟩ (.slice Ao51 t307.length co51)) = w61 at n0_ n1_ n2_ n3_ n4_ n5_ n6_ ⊢
        have HO309 := n0_
        have BK300 := n1_
        have BK301 := n2_
        have BK302 := n3_
        have BK303 := n4_
        have BK311 := n5_
        have HB := n6_
        clear n0_ n1_ n2_ n3_ n4_ n5_ n6_
        first | (obtain ⟨w61, hq_⟩ : ∃ x, x = w61.drewN nd := ⟨_, rfl⟩; rw [← hq_]; have q0_ := Aside0.mk (Kd.R_drewN HO309.out nd); rw [← hq_] at q0_; have q1_ := Aside0.mk (blk_drewN BK300.out nd); rw [← hq_] at q1_; have q2_ := Aside0.mk (blk_drewN BK301.out nd); rw [← hq_] at q2_; have q3_ := Aside0.mk (blk_drewN BK302.out nd); rw [← hq_] at q3_; have q4_ := Aside0.mk (blk_drewN BK303.out nd); rw [← hq_] at q4_; have q5_ := Aside0.mk (blk_drewN BK311.out nd); rw [← hq_] at q5_; have q6_ := Aside0.mk (pw_below_drewN HB.out nd); rw [← hq_] at q6_; clear HO309; clear BK300; clear BK301; clear BK302; clear BK303; clear BK311; clear HB; have HO309 := q0_; have BK300 := q1_; have BK301 := q2_; have BK302 := q3_; have BK303 := q4_; have BK311 := q5_; have HB := q6_; clear hq_ q0_ q1_ q2_ q3_ q4_ q5_ q6_) | skip
        have n0_ := Aside0.mk (Kd.R_drew HO309.out)
        have n1_ := Aside0.mk (blk_drew BK300.out)
        have n2_ := Aside0.mk (blk_drew BK301.out)
        have n3_ := Aside0.mk (blk_drew BK302.out)
        have n4_ := Aside0.mk (blk_drew BK303.out)
        have n5_ := Aside0.mk (blk_drew BK311.out)
        have n6_ := Aside0.mk (below_drew1 HB.out)
        clear HO309
        clear BK300
        clear BK301
        clear BK302
        clear BK303
        clear BK311
        clear HB
        have HO309 := n0_
        have BK300 := n1_
        have BK301 := n2_
        have BK302 := n3_
        have BK303 := n4_
        have BK311 := n5_
        have HB := n6_
        clear n0_ n1_ n2_ n3_ n4_ n5_ n6_
        refine start_ (n := 11) (S := fun w' => True) (ds := []) #[false, false, false, false, false, false, false, false, false, false, false] (by kernel_rfl) rfl rfl trivial (fun hHeld => ?_); refine with_tabW warrantorlaw13_RunSteps.tab4 warrantorlaw13_RunSteps.bits4 (fun HT_ HW_ => ?_)
        generalize w61.drew = w62 at HO309 BK300 BK301 BK302 BK303 BK311 HB hHeld ⊢
        refine one_ (i := 0) (N := some 31) #[true, false, false, false, false, false, false, false, false, false, false] rfl rfl (one_of HT_.out (by kernel_rfl)) (by decide) (fun K hK => ?_)
        refine goes_ Try.func7 (by kernel_rfl) rfl #[] (by rfl) rfl rfl MP_ ?_
        with_reducible refine (warrantorlaw13_lives.calls kj4  false _ A52.out).mono ?_
        rintro e w63 ⟨rfl, hb⟩
        refine ⟨_, rfl, ?_⟩
        have n0_ := Aside0.mk (Kd.R_below (by (with_reducible repeat (first | apply Kd.R_alloc | apply Kd.R_drewN | apply Kd.R_drew)); exact HO309.out) hb)
        have n1_ := Aside0.mk (blk_below (g := gb300) (o := .cells #[.string a0_0, .slice A0_1 l0_1.length c0_1, .slice A0_2 l0_2.length c0_2, .slice A0_3 l0_3.length c0_3] 26 (0, 0)) (bk_ BK300.out) hb)
        have n2_ := Aside0.mk (blk_below (g := gb301) (o := .cells #[.int .i64 a1_0, .slice A1_1 l1_1.length c1_1] 29 (0, 0)) (bk_ BK301.out) hb)
        have n3_ := Aside0.mk (blk_below (g := gb302) (o := .cells #[.int .i64 a2_0, .slice A2_1 l2_1.length c2_1] 29 (0, 0)) (bk_ BK302.out) hb)
        have n4_ := Aside0.mk (blk_below (g := gb303) (o := .cells #[.int .i64 a3_0, .int .i64 a3_1] 31 (0, 0)) (bk_ BK303.out) hb)
        have n5_ := Aside0.mk (blk_below (g := gb311) (o := .cells #[.int .i64 t306, .slice Ao51 t307.length co51] 29 (0, 0)) (bk_ BK311.out) hb)
        have n6_ := Aside0.mk (below_step HB_ hb)
        clear HO309
        clear BK300
        clear BK301
        clear BK302
        clear BK303
        clear BK311
        clear HB
        have HO309 := n0_
        have BK300 := n1_
        have BK301 := n2_
        have BK302 := n3_
        have BK303 := n4_
        have BK311 := n5_
        have HB := n6_
        clear n0_ n1_ n2_ n3_ n4_ n5_ n6_
        (try clear hb)
        (try clear hb2)
        (try clear hk)
        (try clear hi)
        refine hK.out _ _ trivial (fun hHeld => ?_)
        clear hK K
        refine norm_ (a' := ?_) ?_ ?_
        rotate_left
        · show Act.put _ (some 31) _ = _
          simp only [Act.put, List.setIfInBounds_toArray, List.set_cons_zero, List.set_cons_succ, i64_w, i32_w]
          rfl
        refine pure_ (i := 1) (N := some 32) (v := ?_) (a' := ?_) #[true, true, false, false, false, false, false, false, false, false, false] rfl rfl (any_of HT_.out (by kernel_rfl)) (fun _ _ _ h => h) (Or.inl ⟨by rfl, ?_⟩) ?_ ?_
        rotate_left
        · intro w'
          go_simp
          with_reducible rfl
        rotate_left
        · exact AP_
        refine pure_ (i := 2) (N := some 33) (v := ?_) (a' := ?_) #[true, true, true, false, false, false, false, false, false, false, false] rfl rfl (any_of HT_.out (by kernel_rfl)) (fun _ _ _ h => h) (Or.inl ⟨by rfl, ?_⟩) ?_ ?_
        rotate_left
        · intro w'
          go_simp
          with_reducible rfl
        rotate_left
        · exact AP_
        refine pure_ (i := 3) (N := some 34) (v := undef) (a' := ?_) #[true, true, true, true, false, false, false, false, false, false, false] rfl rfl (any_of HT_.out (by kernel_rfl)) (fun _ _ _ h => h) (Or.inr ⟨by rfl, rfl⟩) ?_ ?_
        rotate_left
        · exact AP_
        refine pure_ (i := 4) (N := some 35) (v := undef) (a' := ?_) #[true, true, true, true, true, false, false, false, false, false, false] rfl rfl (any_of HT_.out (by kernel_rfl)) (fun _ _ _ h => h) (Or.inr ⟨by rfl, rfl⟩) ?_ ?_
        rotate_left
        · exact AP_
        refine pure_ (i := 5) (N := some 36) (v := undef) (a' := ?_) #[true, true, true, true, true, true, false, false, false, false, false] rfl rfl (any_of HT_.out (by kernel_rfl)) (fun _ _ _ h => h) (Or.inr ⟨by rfl, rfl⟩) ?_ ?_
        rotate_left
        · exact AP_
        refine pure_ (i := 6) (N := some 37) (v := undef) (a' := ?_) #[true, true, true, true, true, true, true, false, false, false, false] rfl rfl (any_of HT_.out (by kernel_rfl)) (fun _ _ _ h => h) (Or.inr ⟨by rfl, rfl⟩) ?_ ?_
        rotate_left
        · exact AP_
        refine pure_ (i := 7) (N := some 38) (v := undef) (a' := ?_) #[true, true, true, true, true, true, true, true, false, false, false] rfl rfl (any_of HT_.out (by kernel_rfl)) (fun _ _ _ h => h) (Or.inr ⟨by rfl, rfl⟩) ?_ ?_
        rotate_left
        · exact AP_
        refine pure_ (i := 8) (N := some 39) (v := undef) (a' := ?_) #[true, true, true, true, true, true, true, true, true, false, false] rfl rfl (any_of HT_.out (by kernel_rfl)) (fun _ _ _ h => h) (Or.inr ⟨by rfl, rfl⟩) ?_ ?_
        rotate_left
        · exact AP_
        refine pure_ (i := 9) (N := some 40) (v := undef) (a' := ?_) #[true, true, true, true, true, true, true, true, true, true, false] rfl rfl (any_of HT_.out (by kernel_rfl)) (fun _ _ _ h => h) (Or.inr ⟨by rfl, rfl⟩) ?_ ?_
        rotate_left
        · exact AP_
        refine pure_ (i := 10) (N := some 41) (v := ?_) (a' := ?_) #[true, true, true, true, true, true, true, true, true, true, true] rfl rfl (any_of HT_.out (by kernel_rfl)) (fun _ _ _ h => h) (Or.inl ⟨by rfl, ?_⟩) ?_ ?_
        rotate_left
        · intro w'
          go_simp
          with_reducible rfl
        rotate_left
        · exact AP_
        refine done_ (done_of HT_.out (by kernel_rfl)) ?_
        try go_wp2
        go_meet
        case rel => exact ⟨_, (true), (by first | rfl | (simp; done) | (simp [*]; done)), H', ⟨by have := HJ4.out; first | omega | exact Nat.le_refl _⟩, ⟨by (with_reducible repeat (first | apply Kd.R_alloc | apply Kd.R_drewN | apply Kd.R_drew)); exact HO309.out⟩, ⟨by (with_reducible repeat (first | refine blk_drewN ?_ _ | refine blk_drew ?_ | refine blk_alloc ?_ _)); exact BK300.out⟩, ⟨by (with_reducible repeat (first | refine blk_drewN ?_ _ | refine blk_drew ?_ | refine blk_alloc ?_ _)); exact BK301.out⟩, ⟨by (with_reducible repeat (first | refine blk_drewN ?_ _ | refine blk_drew ?_ | refine blk_alloc ?_ _)); exact BK302.out⟩, ⟨by (with_reducible repeat (first | refine blk_drewN ?_ _ | refine blk_drew ?_ | refine blk_alloc ?_ _)); exact BK303.out⟩, ⟨by (with_reducible repeat (first | refine blk_drewN ?_ _ | refine blk_drew ?_ | refine blk_alloc ?_ _)); exact BK311.out⟩, ⟨HB_⟩⟩
      subst c53
      have H1 : ((run_Same.f kj4 a1_0 l1_1 a2_0 l2_1).bind fun t313 => ((warrantorref13_Same.f kj4 a1_0 l1_1 a2_0 l2_1).bind fun t314 => (warrantorlaw13_RunSteps.j1 kj4 t310 (t313 != t314) a0_0 l0_1 l0_2 l0_3 a1_0 l1_1 a3_0 a3_1 t306 t307))) = some r := by rw [if_pos rfl] at H; exact H
      clear H
      have H := H1
      clear H1
      replace H := Option.bind_eq_some_iff.mp H
      obtain ⟨t313, A540, H⟩ := H
      replace H : ((warrantorref13_Same.f kj4 a1_0 l1_1 a2_0 l2_1).bind fun t314 => (warrantorlaw13_RunSteps.j1 kj4 t310 (t313 != t314) a0_0 l0_1 l0_2 l0_3 a1_0 l1_1 a3_0 a3_1 t306 t307)) = some r := H
      have A54 := Aside0.mk A540
      clear A540
      replace H := Option.bind_eq_some_iff.mp H
      obtain ⟨t314, A550, H⟩ := H
      replace H : (warrantorlaw13_RunSteps.j1 kj4 t310 (t313 != t314) a0_0 l0_1 l0_2 l0_3 a1_0 l1_1 a3_0 a3_1 t306 t307) = some r := H
      have A55 := Aside0.mk A550
      clear A550
      have H' := Aside0.mk H
      clear H
      try go_wp2
      have n0_ : Aside0 (Kd.R (Kd.int .i64) 3 ((w45.setCell ⟨gb311, 0, none⟩ (.int .i64 t306)).setCell ⟨gb311, 1, none⟩ (.slice Ao51 t307.length co51)) w.heap.size (fun _ => True) (.slice Ao51 t307.length co51) t307) := ⟨by (with_reducible repeat (first | apply Kd.R_alloc | apply Kd.R_drewN | apply Kd.R_drew)); exact Kd.R_mono (Kd.R_far (p := ⟨gb311, 1, none⟩) (Kd.R_far (p := ⟨gb311, 0, none⟩) (Kd.R_types HO309.out BK311.out (by decide)) (fun _ hk => hk.2) (.int .i64 t306)) (fun _ hk => hk.2) (.slice Ao51 t307.length co51)) (fun _ hk => trivial)⟩
      have n1_ : Aside0 (((w45.setCell ⟨gb311, 0, none⟩ (.int .i64 t306)).setCell ⟨gb311, 1, none⟩ (.slice Ao51 t307.length co51)).heap[gb300]? = some (.cells #[.string a0_0, .slice A0_1 l0_1.length c0_1, .slice A0_2 l0_2.length c0_2, .slice A0_3 l0_3.length c0_3] 26 (0, 0))) := ⟨by (with_reducible repeat (first | refine blk_drewN ?_ _ | refine blk_drew ?_ | refine blk_alloc ?_ _)); refine blk_far ?_ NB300_311.out _; (with_reducible repeat (first | refine blk_drewN ?_ _ | refine blk_drew ?_ | refine blk_alloc ?_ _)); refine blk_far ?_ NB300_311.out _; (with_reducible repeat (first | refine blk_drewN ?_ _ | refine blk_drew ?_ | refine blk_alloc ?_ _)); exact BK300.out⟩
      have n2_ : Aside0 (((w45.setCell ⟨gb311, 0, none⟩ (.int .i64 t306)).setCell ⟨gb311, 1, none⟩ (.slice Ao51 t307.length co51)).heap[gb301]? = some (.cells #[.int .i64 a1_0, .slice A1_1 l1_1.length c1_1] 29 (0, 0))) := ⟨by (with_reducible repeat (first | refine blk_drewN ?_ _ | refine blk_drew ?_ | refine blk_alloc ?_ _)); refine blk_far ?_ NB301_311.out _; (with_reducible repeat (first | refine blk_drewN ?_ _ | refine blk_drew ?_ | refine blk_alloc ?_ _)); refine blk_far ?_ NB301_311.out _; (with_reducible repeat (first | refine blk_drewN ?_ _ | refine blk_drew ?_ | refine blk_alloc ?_ _)); exact BK301.out⟩
      have n3_ : Aside0 (((w45.setCell ⟨gb311, 0, none⟩ (.int .i64 t306)).setCell ⟨gb311, 1, none⟩ (.slice Ao51 t307.length co51)).heap[gb302]? = some (.cells #[.int .i64 a2_0, .slice A2_1 l2_1.length c2_1] 29 (0, 0))) := ⟨by (with_reducible repeat (first | refine blk_drewN ?_ _ | refine blk_drew ?_ | refine blk_alloc ?_ _)); refine blk_far ?_ NB302_311.out _; (with_reducible repeat (first | refine blk_drewN ?_ _ | refine blk_drew ?_ | refine blk_alloc ?_ _)); refine blk_far ?_ NB302_311.out _; (with_reducible repeat (first | refine blk_drewN ?_ _ | refine blk_drew ?_ | refine blk_alloc ?_ _)); exact BK302.out⟩
      have n4_ : Aside0 (((w45.setCell ⟨gb311, 0, none⟩ (.int .i64 t306)).setCell ⟨gb311, 1, none⟩ (.slice Ao51 t307.length co51)).heap[gb303]? = some (.cells #[.int .i64 a3_0, .int .i64 a3_1] 31 (0, 0))) := ⟨by (with_reducible repeat (first | refine blk_drewN ?_ _ | refine blk_drew ?_ | refine blk_alloc ?_ _)); refine blk_far ?_ NB303_311.out _; (with_reducible repeat (first | refine blk_drewN ?_ _ | refine blk_drew ?_ | refine blk_alloc ?_ _)); refine blk_far ?_ NB303_311.out _; (with_reducible repeat (first | refine blk_drewN ?_ _ | refine blk_drew ?_ | refine blk_alloc ?_ _)); exact BK303.out⟩
      have n5_ : Aside0 (((w45.setCell ⟨gb311, 0, none⟩ (.int .i64 t306)).setCell ⟨gb311, 1, none⟩ (.slice Ao51 t307.length co51)).heap[gb311]? = some (.cells #[.int .i64 t306, .slice Ao51 t307.length co51] 29 (0, 0))) := ⟨by (with_reducible repeat (first | refine blk_drewN ?_ _ | refine blk_drew ?_ | refine blk_alloc ?_ _)); refine blk_put (cs := #[.int .i64 t306, .slice none 0 0]) ?_ 1 _ rfl; (with_reducible repeat (first | refine blk_drewN ?_ _ | refine blk_drew ?_ | refine blk_alloc ?_ _)); refine blk_put (cs := #[.int .i64 0, .slice none 0 0]) ?_ 0 _ rfl; (with_reducible repeat (first | refine blk_drewN ?_ _ | refine blk_drew ?_ | refine blk_alloc ?_ _)); exact BK311.out⟩
      have n6_ : Aside0 (Below w.heap.size w ((w45.setCell ⟨gb311, 0, none⟩ (.int .i64 t306)).setCell ⟨gb311, 1, none⟩ (.slice Ao51 t307.length co51))) := ⟨HB_⟩
      (try clear HO309)
      (try clear BK300)
      (try clear BK301)
      (try clear BK302)
      (try clear BK303)
      (try clear BK311)
      (try clear HB)
      generalize ((w45.setCell ⟨gb311, 0, none⟩ (.int .i64 t306)).setCell ⟨gb311, 1, none⟩ (.slice Ao51 t307.length co51)) = w56 at n0_ n1_ n2_ n3_ n4_ n5_ n6_ ⊢
      have HO309 := n0_
      have BK300 := n1_
      have BK301 := n2_
      have BK302 := n3_
      have BK303 := n4_
      have BK311 := n5_
      have HB := n6_
      clear n0_ n1_ n2_ n3_ n4_ n5_ n6_
      first | (obtain ⟨w56, hq_⟩ : ∃ x, x = w56.drewN nd := ⟨_, rfl⟩; rw [← hq_]; have q0_ := Aside0.mk (Kd.R_drewN HO309.out nd); rw [← hq_] at q0_; have q1_ := Aside0.mk (blk_drewN BK300.out nd); rw [← hq_] at q1_; have q2_ := Aside0.mk (blk_drewN BK301.out nd); rw [← hq_] at q2_; have q3_ := Aside0.mk (blk_drewN BK302.out nd); rw [← hq_] at q3_; have q4_ := Aside0.mk (blk_drewN BK303.out nd); rw [← hq_] at q4_; have q5_ := Aside0.mk (blk_drewN BK311.out nd); rw [← hq_] at q5_; have q6_ := Aside0.mk (pw_below_drewN HB.out nd); rw [← hq_] at q6_; clear HO309; clear BK300; clear BK301; clear BK302; clear BK303; clear BK311; clear HB; have HO309 := q0_; have BK300 := q1_; have BK301 := q2_; have BK302 := q3_; have BK303 := q4_; have BK311 := q5_; have HB := q6_; clear hq_ q0_ q1_ q2_ q3_ q4_ q5_ q6_) | skip
      have n0_ := Aside0.mk (Kd.R_drew HO309.out)
      have n1_ := Aside0.mk (blk_drew BK300.out)
      have n2_ := Aside0.mk (blk_drew BK301.out)
      have n3_ := Aside0.mk (blk_drew BK302.out)
      have n4_ := Aside0.mk (blk_drew BK303.out)
      have n5_ := Aside0.mk (blk_drew BK311.out)
      have n6_ := Aside0.mk (below_drew1 HB.out)
      clear HO309
      clear BK300
      clear BK301
      clear BK302
      clear BK303
      clear BK311
      clear HB
      have HO309 := n0_
      have BK300 := n1_
      have BK301 := n2_
      have BK302 := n3_
      have BK303 := n4_
      have BK311 := n5_
      have HB := n6_
      clear n0_ n1_ n2_ n3_ n4_ n5_ n6_
      refine start_ (n := 11) (S := fun w' => w'.cell? ⟨gb301, 0, none⟩ = some (.int .i64 a1_0) ∧ w'.cell? ⟨gb301, 1, none⟩ = some (.slice A1_1 l1_1.length c1_1) ∧ w'.cell? ⟨gb302, 0, none⟩ = some (.int .i64 a2_0) ∧ w'.cell? ⟨gb302, 1, none⟩ = some (.slice A2_1 l2_1.length c2_1)) (ds := []) #[false, false, false, false, false, false, false, false, false, false, false] (by kernel_rfl) rfl rfl ⟨(blk_cell BK301.out 0).trans rfl, (blk_cell BK301.out 1).trans rfl, (blk_cell BK302.out 0).trans rfl, (blk_cell BK302.out 1).trans rfl⟩ (fun hHeld => ?_); refine with_tabW warrantorlaw13_RunSteps.tab4 warrantorlaw13_RunSteps.bits4 (fun HT_ HW_ => ?_)
      generalize w56.drew = w57 at HO309 BK300 BK301 BK302 BK303 BK311 HB hHeld ⊢
      refine one_ (i := 0) (N := some 31) #[true, false, false, false, false, false, false, false, false, false, false] rfl rfl (one_of HT_.out (by kernel_rfl)) (by decide) (fun K hK => ?_)
      refine goes_ Try.func7 (by kernel_rfl) rfl #[] (by rfl) rfl rfl MP_ ?_
      with_reducible refine (warrantorlaw13_lives.calls kj4  true _ A52.out).mono ?_
      rintro e w58 ⟨rfl, hb⟩
      refine ⟨_, rfl, ?_⟩
      have n0_ := Aside0.mk (Kd.R_below (by (with_reducible repeat (first | apply Kd.R_alloc | apply Kd.R_drewN | apply Kd.R_drew)); exact HO309.out) hb)
      have n1_ := Aside0.mk (blk_below (g := gb300) (o := .cells #[.string a0_0, .slice A0_1 l0_1.length c0_1, .slice A0_2 l0_2.length c0_2, .slice A0_3 l0_3.length c0_3] 26 (0, 0)) (bk_ BK300.out) hb)
      have n2_ := Aside0.mk (blk_below (g := gb301) (o := .cells #[.int .i64 a1_0, .slice A1_1 l1_1.length c1_1] 29 (0, 0)) (bk_ BK301.out) hb)
      have n3_ := Aside0.mk (blk_below (g := gb302) (o := .cells #[.int .i64 a2_0, .slice A2_1 l2_1.length c2_1] 29 (0, 0)) (bk_ BK302.out) hb)
      have n4_ := Aside0.mk (blk_below (g := gb303) (o := .cells #[.int .i64 a3_0, .int .i64 a3_1] 31 (0, 0)) (bk_ BK303.out) hb)
      have n5_ := Aside0.mk (blk_below (g := gb311) (o := .cells #[.int .i64 t306, .slice Ao51 t307.length co51] 29 (0, 0)) (bk_ BK311.out) hb)
      have n6_ := Aside0.mk (below_step HB_ hb)
      clear HO309
      clear BK300
      clear BK301
      clear BK302
      clear BK303
      clear BK311
      clear HB
      have HO309 := n0_
      have BK300 := n1_
      have BK301 := n2_
      have BK302 := n3_
      have BK303 := n4_
      have BK311 := n5_
      have HB := n6_
      clear n0_ n1_ n2_ n3_ n4_ n5_ n6_
      (try clear hb)
      (try clear hb2)
      (try clear hk)
      (try clear hi)
      refine hK.out _ _ ⟨(blk_cell BK301.out 0).trans rfl, (blk_cell BK301.out 1).trans rfl, (blk_cell BK302.out 0).trans rfl, (blk_cell BK302.out 1).trans rfl⟩ (fun hHeld => ?_)
      clear hK K
      refine norm_ (a' := ?_) ?_ ?_
      rotate_left
      · show Act.put _ (some 31) _ = _
        simp only [Act.put, List.setIfInBounds_toArray, List.set_cons_zero, List.set_cons_succ, i64_w, i32_w]
        rfl
      refine pure_ (i := 1) (N := some 32) (v := ?_) (a' := ?_) #[true, true, false, false, false, false, false, false, false, false, false] rfl rfl (any_of HT_.out (by kernel_rfl)) (fun _ _ _ h => h) (Or.inl ⟨by rfl, ?_⟩) ?_ ?_
      rotate_left
      · intro w'
        go_simp
        with_reducible rfl
      rotate_left
      · exact AP_
      refine pure_ (i := 2) (N := some 33) (v := ?_) (a' := ?_) #[true, true, true, false, false, false, false, false, false, false, false] rfl rfl (any_of HT_.out (by kernel_rfl)) (fun _ _ _ h => h) (Or.inl ⟨by rfl, ?_⟩) ?_ ?_
      rotate_left
      · intro w'
        go_simp
        with_reducible rfl
      rotate_left
      · exact AP_
      refine take_ (i := 3) (N := some 34) (v := ?_) (a' := ?_) #[true, true, true, true, false, false, false, false, false, false, false] rfl rfl (take_ofW HT_.out HW_.out (by kernel_rfl)) (fun _ _ _ h => h) (Or.inl ⟨by rfl, ?_⟩) hHeld ?_ ?_
      rotate_left
      · rintro w' ⟨s0, s1, s2, s3⟩
        go_simp
        with_reducible rfl
      rotate_left
      · exact AP_
      refine take_ (i := 4) (N := some 35) (v := ?_) (a' := ?_) #[true, true, true, true, true, false, false, false, false, false, false] rfl rfl (take_ofW HT_.out HW_.out (by kernel_rfl)) (fun _ _ _ h => h) (Or.inl ⟨by rfl, ?_⟩) hHeld ?_ ?_
      rotate_left
      · rintro w' ⟨s0, s1, s2, s3⟩
        go_simp
        with_reducible rfl
      rotate_left
      · exact AP_
      refine take_ (i := 6) (N := some 37) (v := ?_) (a' := ?_) #[true, true, true, true, true, false, true, false, false, false, false] rfl rfl (take_ofW HT_.out HW_.out (by kernel_rfl)) (fun _ _ _ h => h) (Or.inl ⟨by rfl, ?_⟩) hHeld ?_ ?_
      rotate_left
      · rintro w' ⟨s0, s1, s2, s3⟩
        go_simp
        with_reducible rfl
      rotate_left
      · exact AP_
      refine take_ (i := 7) (N := some 38) (v := ?_) (a' := ?_) #[true, true, true, true, true, false, true, true, false, false, false] rfl rfl (take_ofW HT_.out HW_.out (by kernel_rfl)) (fun _ _ _ h => h) (Or.inl ⟨by rfl, ?_⟩) hHeld ?_ ?_
      rotate_left
      · rintro w' ⟨s0, s1, s2, s3⟩
        go_simp
        with_reducible rfl
      rotate_left
      · exact AP_
      refine one_ (i := 5) (N := some 36) #[true, true, true, true, true, true, true, true, false, false, false] rfl rfl (one_of HT_.out (by kernel_rfl)) (by decide) (fun K hK => ?_)
      refine goes_ Try.func9 (by kernel_rfl) rfl #[.agg #[.int .i64 a1_0, .slice A1_1 l1_1.length c1_1], .agg #[.int .i64 a2_0, .slice A2_1 l2_1.length c2_1]] (by rfl) rfl rfl MP_ ?_
      with_reducible refine (run_Same.calls kj4 a1_0 _ _ l1_1 a2_0 _ _ l2_1 t313 _ ?side1 ?side2 ?side3 ?side4 A54.out).mono ?_
      (case side1 => repeat (first | exact (Kd.C_below HR1_1.out HB.out) | (with_reducible refine Kd.C_alloc ?_ _) | (with_reducible refine Kd.C_drewN ?_ _) | (with_reducible refine Kd.C_drew ?_)))
      (case side2 => exact HC1_1.out)
      (case side3 => repeat (first | exact (Kd.C_below HR2_1.out HB.out) | (with_reducible refine Kd.C_alloc ?_ _) | (with_reducible refine Kd.C_drewN ?_ _) | (with_reducible refine Kd.C_drew ?_)))
      (case side4 => exact HC2_1.out)
      rintro e w59 ⟨rfl, hb⟩
      refine ⟨_, rfl, ?_⟩
      have n0_ := Aside0.mk (Kd.R_below (by (with_reducible repeat (first | apply Kd.R_alloc | apply Kd.R_drewN | apply Kd.R_drew)); exact HO309.out) hb)
      have n1_ := Aside0.mk (blk_below (g := gb300) (o := .cells #[.string a0_0, .slice A0_1 l0_1.length c0_1, .slice A0_2 l0_2.length c0_2, .slice A0_3 l0_3.length c0_3] 26 (0, 0)) (bk_ BK300.out) hb)
      have n2_ := Aside0.mk (blk_below (g := gb301) (o := .cells #[.int .i64 a1_0, .slice A1_1 l1_1.length c1_1] 29 (0, 0)) (bk_ BK301.out) hb)
      have n3_ := Aside0.mk (blk_below (g := gb302) (o := .cells #[.int .i64 a2_0, .slice A2_1 l2_1.length c2_1] 29 (0, 0)) (bk_ BK302.out) hb)
      have n4_ := Aside0.mk (blk_below (g := gb303) (o := .cells #[.int .i64 a3_0, .int .i64 a3_1] 31 (0, 0)) (bk_ BK303.out) hb)
      have n5_ := Aside0.mk (blk_below (g := gb311) (o := .cells #[.int .i64 t306, .slice Ao51 t307.length co51] 29 (0, 0)) (bk_ BK311.out) hb)
      have n6_ := Aside0.mk (below_step HB_ hb)
      clear HO309
      clear BK300
      clear BK301
      clear BK302
      clear BK303
      clear BK311
      clear HB
      have HO309 := n0_
      have BK300 := n1_
      have BK301 := n2_
      have BK302 := n3_
      have BK303 := n4_
      have BK311 := n5_
      have HB := n6_
      clear n0_ n1_ n2_ n3_ n4_ n5_ n6_
      (try clear hb)
      (try clear hb2)
      (try clear hk)
      (try clear hi)
      refine hK.out _ _ ⟨(blk_cell BK301.out 0).trans rfl, (blk_cell BK301.out 1).trans rfl, (blk_cell BK302.out 0).trans rfl, (blk_cell BK302.out 1).trans rfl⟩ (fun hHeld => ?_)
      clear hK K
      refine norm_ (a' := ?_) ?_ ?_
      rotate_left
      · show Act.put _ (some 36) _ = _
        simp only [Act.put, List.setIfInBounds_toArray, List.set_cons_zero, List.set_cons_succ, i64_w, i32_w]
        rfl
      refine one_ (i := 8) (N := some 39) #[true, true, true, true, true, true, true, true, true, false, false] rfl rfl (one_of HT_.out (by kernel_rfl)) (by decide) (fun K hK => ?_)
      refine goes_ Try.func10 (by kernel_rfl) rfl #[.agg #[.int .i64 a1_0, .slice A1_1 l1_1.length c1_1], .agg #[.int .i64 a2_0, .slice A2_1 l2_1.length c2_1]] (by rfl) rfl rfl MP_ ?_
      with_reducible refine (warrantorref13_Same.calls kj4 a1_0 _ _ l1_1 a2_0 _ _ l2_1 t314 _ ?side1 ?side2 ?side3 ?side4 A55.out).mono ?_
      (case side1 => repeat (first | exact (Kd.C_below HR1_1.out HB.out) | (with_reducible refine Kd.C_alloc ?_ _) | (with_reducible refine Kd.C_drewN ?_ _) | (with_reducible refine Kd.C_drew ?_)))
      (case side2 => exact HC1_1.out)
      (case side3 => repeat (first | exact (Kd.C_below HR2_1.out HB.out) | (with_reducible refine Kd.C_alloc ?_ _) | (with_reducible refine Kd.C_drewN ?_ _) | (with_reducible refine Kd.C_drew ?_)))
      (case side4 => exact HC2_1.out)
      rintro e w60 ⟨rfl, hb⟩
      refine ⟨_, rfl, ?_⟩
      have n0_ := Aside0.mk (Kd.R_below (by (with_reducible repeat (first | apply Kd.R_alloc | apply Kd.R_drewN | apply Kd.R_drew)); exact HO309.out) hb)
      have n1_ := Aside0.mk (blk_below (g := gb300) (o := .cells #[.string a0_0, .slice A0_1 l0_1.length c0_1, .slice A0_2 l0_2.length c0_2, .slice A0_3 l0_3.length c0_3] 26 (0, 0)) (bk_ BK300.out) hb)
      have n2_ := Aside0.mk (blk_below (g := gb301) (o := .cells #[.int .i64 a1_0, .slice A1_1 l1_1.length c1_1] 29 (0, 0)) (bk_ BK301.out) hb)
      have n3_ := Aside0.mk (blk_below (g := gb302) (o := .cells #[.int .i64 a2_0, .slice A2_1 l2_1.length c2_1] 29 (0, 0)) (bk_ BK302.out) hb)
      have n4_ := Aside0.mk (blk_below (g := gb303) (o := .cells #[.int .i64 a3_0, .int .i64 a3_1] 31 (0, 0)) (bk_ BK303.out) hb)
      have n5_ := Aside0.mk (blk_below (g := gb311) (o := .cells #[.int .i64 t306, .slice Ao51 t307.length co51] 29 (0, 0)) (bk_ BK311.out) hb)
      have n6_ := Aside0.mk (below_step HB_ hb)
      clear HO309
      clear BK300
      clear BK301
      clear BK302
      clear BK303
      clear BK311
      clear HB
      have HO309 := n0_
      have BK300 := n1_
      have BK301 := n2_
      have BK302 := n3_
      have BK303 := n4_
      have BK311 := n5_
      have HB := n6_
      clear n0_ n1_ n2_ n3_ n4_ n5_ n6_
      (try clear hb)
      (try clear hb2)
      (try clear hk)
      (try clear hi)
      refine hK.out _ _ ⟨(blk_cell BK301.out 0).trans rfl, (blk_cell BK301.out 1).trans rfl, (blk_cell BK302.out 0).trans rfl, (blk_cell BK302.out 1).trans rfl⟩ (fun hHeld => ?_)
      clear hK K
      refine norm_ (a' := ?_) ?_ ?_
      rotate_left
      · show Act.put _ (some 39) _ = _
        simp only [Act.put, List.setIfInBounds_toArray, List.set_cons_zero, List.set_cons_succ, i64_w, i32_w]
        rfl
      refine pure_ (i := 9) (N := some 40) (v := ?_) (a' := ?_) #[true, true, true, true, true, true, true, true, true, true, false] rfl rfl (any_of HT_.out (by kernel_rfl)) (fun _ _ _ h => h) (Or.inl ⟨by rfl, ?_⟩) ?_ ?_
      rotate_left
      · intro w'
        go_simp
        with_reducible rfl
      rotate_left
      · exact AP_
      refine pure_ (i := 10) (N := some 41) (v := ?_) (a' := ?_) #[true, true, true, true, true, true, true, true, true, true, true] rfl rfl (any_of HT_.out (by kernel_rfl)) (fun _ _ _ h => h) (Or.inl ⟨by rfl, ?_⟩) ?_ ?_
      rotate_left
      · intro w'
        go_simp
        with_reducible rfl
      rotate_left
      · exact AP_
      refine done_ (done_of HT_.out (by kernel_rfl)) ?_
      try go_wp2
      go_meet
      case rel => exact ⟨_, ((t313 != t314)), (by first | rfl | (simp; done) | (simp [*]; done)), H', ⟨by have := HJ4.out; first | omega | exact Nat.le_refl _⟩, ⟨by (with_reducible repeat (first | apply Kd.R_alloc | apply Kd.R_drewN | apply Kd.R_drew)); exact HO309.out⟩, ⟨by (with_reducible repeat (first | refine blk_drewN ?_ _ | refine blk_drew ?_ | refine blk_alloc ?_ _)); exact BK300.out⟩, ⟨by (with_reducible repeat (first | refine blk_drewN ?_ _ | refine blk_drew ?_ | refine blk_alloc ?_ _)); exact BK301.out⟩, ⟨by (with_reducible repeat (first | refine blk_drewN ?_ _ | refine blk_drew ?_ | refine blk_alloc ?_ _)); exact BK302.out⟩, ⟨by (with_reducible repeat (first | refine blk_drewN ?_ _ | refine blk_drew ?_ | refine blk_alloc ?_ _)); exact BK303.out⟩, ⟨by (with_reducible repeat (first | refine blk_drewN ?_ _ | refine blk_drew ?_ | refine blk_alloc ?_ _)); exact BK311.out⟩, ⟨HB_⟩⟩
    case rest =>
      clear HC34
      try clear c1
      try clear c2
      try clear p2
      try clear c3
      try clear c4
      try clear c5
      try clear c6
      try clear c7
      try clear c8
      try clear c9
      try clear c10
      try clear c11
      try clear c12
      try clear c13
      try clear c14
      try clear c16
      try clear c17
      try clear c20
      try clear c21
      try clear c22
      try clear c24
      try clear c25
      try clear c28
      try clear c30
      try clear c35
      try clear c36
      try clear c37
      try clear c39
      try clear c40
      try clear c42
      try clear c46
      try clear c47
      try clear c48
      try clear c49
      try clear c53
      try clear hcz15_0
      try clear hcz15_1
      try clear hcz15_2
      try clear hcz15_3
      try clear hcz18_0
      try clear hcz18_1
      try clear hcz23_0
      try clear hcz23_1
      try clear hcz23_2
      try clear hcz23_3
      try clear hcz26_0
      try clear hcz26_1
      try clear hcz29_0
      try clear hcz29_1
      try clear hcz38_0
      try clear hcz38_1
      try clear hcz38_2
      try clear hcz38_3
      try clear hcz41_0
      try clear hcz41_1
      try clear hcz43_0
      try clear hcz43_1
      try clear hcz50_0
      try clear hcz50_1
      try clear hfz15_0
      try clear hfz15_1
      try clear hfz15_2
      try clear hfz15_3
      try clear hfz18_0
      try clear hfz18_1
      try clear hfz23_0
      try clear hfz23_1
      try clear hfz23_2
      try clear hfz23_3
      try clear hfz26_0
      try clear hfz26_1
      try clear hfz29_0
      try clear hfz29_1
      try clear hfz38_0
      try clear hfz38_1
      try clear hfz38_2
      try clear hfz38_3
      try clear hfz41_0
      try clear hfz41_1
      try clear hfz43_0
      try clear hfz43_1
      try clear hfz50_0
      try clear hfz50_1
      try clear p2
      obtain ⟨kq, x41_33, rfl, HA, HJ33, HO_312001, BK300, BK301, BK302, BK303, BK311, HB⟩ := hcut
      cases kq with
      | zero => exact absurd HA.out (by simp [warrantorlaw13_RunSteps.j1])
      | succ kj33 =>
        have H := HA.out
        clear HA
        simp only [warrantorlaw13_RunSteps.j1] at H
        by_cases c64 : x41_33 = true
        · subst c64
          have H1 : (some false) = some r := by rw [if_pos rfl] at H; exact H
          clear H
          have H := H1
          clear H1
          obtain rfl := Option.some.inj H
          go_wp2
          go_ret
          exact ⟨by first | rfl | (simp [errW_none, errW_some] <;> rfl) | (simp [*, errW_none, errW_some] <;> rfl), HB_⟩
        replace c64 := Bool.eq_false_iff.mpr c64
        subst c64
        have H1 : ((warrantorref11_Check.f kj33 a0_0 l0_1 l0_2 l0_3).bind fun t315 => (if t315 = true then ((warrantorref13_Right.f kj33 a0_0 l0_1 l0_2 l0_3 a1_0 l1_1).bind fun t318 => (if t318 = true then ((warrantorref13_Step.f kj33 a0_0 l0_1 l0_2 l0_3 a1_0 l1_1 a3_0 a3_1).bind fun bt319 => ((run_Right.f a0_0 l0_1 l0_2 l0_3 a1_0 l1_1).bind fun t325 => (if t325 = true then (if t310 = bt319.2.2 then ((warrantorref13_Same.f kj33 t306 t307 bt319.1 bt319.2.1).bind fun t326 => (some t326)) else (some false)) else (some false)))) else (if t310 = 1 then ((warrantorref13_Same.f kj33 t306 t307 0 ([] : List Int)).bind fun t327 => (if t327 = true then ((run_Right.f a0_0 l0_1 l0_2 l0_3 a1_0 l1_1).bind fun t328 => (some (!t328))) else (some false))) else (some false)))) else (if t310 = 110 then ((warrantorref13_Same.f kj33 t306 t307 0 ([] : List Int)).bind fun t316 => (if t316 = true then ((run_Right.f a0_0 l0_1 l0_2 l0_3 a1_0 l1_1).bind fun t317 => (some (!t317))) else (some false))) else (some false)))) = some r := by rw [if_neg (show ¬ (false = true) by decide)] at H; exact H
        clear H
        have H := H1
        clear H1
        replace H := Option.bind_eq_some_iff.mp H
        obtain ⟨t315, A650, H⟩ := H
        replace H : (if t315 = true then ((warrantorref13_Right.f kj33 a0_0 l0_1 l0_2 l0_3 a1_0 l1_1).bind fun t318 => (if t318 = true then ((warrantorref13_Step.f kj33 a0_0 l0_1 l0_2 l0_3 a1_0 l1_1 a3_0 a3_1).bind fun bt319 => ((run_Right.f a0_0 l0_1 l0_2 l0_3 a1_0 l1_1).bind fun t325 => (if t325 = true then (if t310 = bt319.2.2 then ((warrantorref13_Same.f kj33 t306 t307 bt319.1 bt319.2.1).bind fun t326 => (some t326)) else (some false)) else (some false)))) else (if t310 = 1 then ((warrantorref13_Same.f kj33 t306 t307 0 ([] : List Int)).bind fun t327 => (if t327 = true then ((run_Right.f a0_0 l0_1 l0_2 l0_3 a1_0 l1_1).bind fun t328 => (some (!t328))) else (some false))) else (some false)))) else (if t310 = 110 then ((warrantorref13_Same.f kj33 t306 t307 0 ([] : List Int)).bind fun t316 => (if t316 = true then ((run_Right.f a0_0 l0_1 l0_2 l0_3 a1_0 l1_1).bind fun t317 => (some (!t317))) else (some false))) else (some false))) = some r := H
        have A65 := Aside0.mk A650
        clear A650
        by_cases c66 : t315 = true
        rotate_left
        · replace c66 := Bool.eq_false_iff.mpr c66
          subst c66
          have H1 : (if t310 = 110 then ((warrantorref13_Same.f kj33 t306 t307 0 ([] : List Int)).bind fun t316 => (if t316 = true then ((run_Right.f a0_0 l0_1 l0_2 l0_3 a1_0 l1_1).bind fun t317 => (some (!t317))) else (some false))) else (some false)) = some r := by rw [if_neg (show ¬ (false = true) by decide)] at H; exact H
          clear H
          have H := H1
          clear H1
          by_cases c216 : t310 = 110
          rotate_left
          · rw [if_neg c216] at H
            have c216b0 : (t310 == 110) = false := beq_eq_false_iff_ne.mpr c216
            have c216b1 : (t310 != 110) = true := bne_iff_ne.mpr c216
            obtain rfl := Option.some.inj H
            have hnb247 := NB300_301.out
            have hnc247 := NB301_300.out
            have hnb248 := NB300_302.out
            have hnc248 := NB302_300.out
            have hnb249 := NB300_303.out
            have hnc249 := NB303_300.out
            have hnb250 := NB300_311.out
            have hnc250 := NB311_300.out
            have hcz251_0 : wc.cell? ⟨gb300, 0, none⟩ = some (.string a0_0) := (blk_cell BK300.out 0).trans rfl
            have hcz251_1 : wc.cell? ⟨gb300, 1, none⟩ = some (.slice A0_1 l0_1.length c0_1) := (blk_cell BK300.out 1).trans rfl
            have hcz251_2 : wc.cell? ⟨gb300, 2, none⟩ = some (.slice A0_2 l0_2.length c0_2) := (blk_cell BK300.out 2).trans rfl
            have hcz251_3 : wc.cell? ⟨gb300, 3, none⟩ = some (.slice A0_3 l0_3.length c0_3) := (blk_cell BK300.out 3).trans rfl
            have hfz251_0 := blk_frozen BK300.out 0
            have hfz251_1 := blk_frozen BK300.out 1
            have hfz251_2 := blk_frozen BK300.out 2
            have hfz251_3 := blk_frozen BK300.out 3
            go_wp2_with (first | ((with_reducible refine gate_callee (f := 11) rfl ?_); refine goesL_ (some 43) rfl rfl Try.func11 (by kernel_rfl) rfl #[.agg #[.string a0_0, .slice A0_1 l0_1.length c0_1, .slice A0_2 l0_2.length c0_2, .slice A0_3 l0_3.length c0_3]] rfl MP_ ?_; (with_reducible refine (warrantorref11_Check.calls kj33 a0_0 _ _ l0_1 _ _ l0_2 _ _ l0_3 false _ ?side1 ?side2 ?side3 ?side4 ?side5 ?side6 A65.out).mono ?_); (case side1 => repeat (first | exact (Kd.C_below HR0_1.out HB.out) | (with_reducible refine Kd.C_alloc ?_ _) | (with_reducible refine Kd.C_drewN ?_ _) | (with_reducible refine Kd.C_drew ?_))); (case side2 => exact HC0_1.out); (case side3 => repeat (first | exact (Kd.C_below HR0_2.out HB.out) | (with_reducible refine Kd.C_alloc ?_ _) | (with_reducible refine Kd.C_drewN ?_ _) | (with_reducible refine Kd.C_drew ?_))); (case side4 => exact HC0_2.out); (case side5 => repeat (first | exact (Kd.C_below HR0_3.out HB.out) | (with_reducible refine Kd.C_alloc ?_ _) | (with_reducible refine Kd.C_drewN ?_ _) | (with_reducible refine Kd.C_drew ?_))); (case side6 => exact HC0_3.out); rintro e w252 ⟨rfl, hb⟩; refine ⟨_, rfl, ?_⟩; have n0_ := Aside0.mk (Kd.R_below (by (with_reducible repeat (first | apply Kd.R_alloc | apply Kd.R_drewN | apply Kd.R_drew)); exact HO_312001.out) hb); have n1_ := Aside0.mk (blk_below (g := gb300) (o := .cells #[.string a0_0, .slice A0_1 l0_1.length c0_1, .slice A0_2 l0_2.length c0_2, .slice A0_3 l0_3.length c0_3] 26 (0, 0)) (bk_ BK300.out) hb); have n2_ := Aside0.mk (blk_below (g := gb301) (o := .cells #[.int .i64 a1_0, .slice A1_1 l1_1.length c1_1] 29 (0, 0)) (bk_ BK301.out) hb); have n3_ := Aside0.mk (blk_below (g := gb302) (o := .cells #[.int .i64 a2_0, .slice A2_1 l2_1.length c2_1] 29 (0, 0)) (bk_ BK302.out) hb); have n4_ := Aside0.mk (blk_below (g := gb303) (o := .cells #[.int .i64 a3_0, .int .i64 a3_1] 31 (0, 0)) (bk_ BK303.out) hb); have n5_ := Aside0.mk (blk_below (g := gb311) (o := .cells #[.int .i64 t306, .slice Ao51 t307.length co51] 29 (0, 0)) (bk_ BK311.out) hb); have n6_ := Aside0.mk (below_step HB_ hb); clear HO_312001; clear BK300; clear BK301; clear BK302; clear BK303; clear BK311; clear HB; have HO_312001 := n0_; have BK300 := n1_; have BK301 := n2_; have BK302 := n3_; have BK303 := n4_; have BK311 := n5_; have HB := n6_; clear n0_ n1_ n2_ n3_ n4_ n5_ n6_; (try clear hb); (try clear hb2); (try clear hk); (try clear hi)))
            go_ret
            exact ⟨by first | rfl | (simp [errW_none, errW_some] <;> rfl) | (simp [*, errW_none, errW_some] <;> rfl), HB_⟩
          rw [if_pos c216] at H
          have c216b0 : (t310 == 110) = true := beq_iff_eq.mpr c216
          have c216b1 : (t310 != 110) = false := bne_eq_false_iff_eq.mpr c216
          clear c216
          replace H := Option.bind_eq_some_iff.mp H
          obtain ⟨t316, A2170, H⟩ := H
          replace H : (if t316 = true then ((run_Right.f a0_0 l0_1 l0_2 l0_3 a1_0 l1_1).bind fun t317 => (some (!t317))) else (some false)) = some r := H
          have A217 := Aside0.mk A2170
          clear A2170
          by_cases c218 : t316 = true
          rotate_left
          · replace c218 := Bool.eq_false_iff.mpr c218
            subst c218
            have H1 : (some false) = some r := by rw [if_neg (show ¬ (false = true) by decide)] at H; exact H
            clear H
            have H := H1
            clear H1
            obtain rfl := Option.some.inj H
            have hnb236 := NB300_301.out
            have hnc236 := NB301_300.out
            have hnb237 := NB300_302.out
            have hnc237 := NB302_300.out
            have hnb238 := NB300_303.out
            have hnc238 := NB303_300.out
            have hnb239 := NB300_311.out
            have hnc239 := NB311_300.out
            have hcz240_0 : wc.cell? ⟨gb300, 0, none⟩ = some (.string a0_0) := (blk_cell BK300.out 0).trans rfl
            have hcz240_1 : wc.cell? ⟨gb300, 1, none⟩ = some (.slice A0_1 l0_1.length c0_1) := (blk_cell BK300.out 1).trans rfl
            have hcz240_2 : wc.cell? ⟨gb300, 2, none⟩ = some (.slice A0_2 l0_2.length c0_2) := (blk_cell BK300.out 2).trans rfl
            have hcz240_3 : wc.cell? ⟨gb300, 3, none⟩ = some (.slice A0_3 l0_3.length c0_3) := (blk_cell BK300.out 3).trans rfl
            have hfz240_0 := blk_frozen BK300.out 0
            have hfz240_1 := blk_frozen BK300.out 1
            have hfz240_2 := blk_frozen BK300.out 2
            have hfz240_3 := blk_frozen BK300.out 3
            go_wp2_with (first | ((with_reducible refine gate_callee (f := 11) rfl ?_); refine goesL_ (some 43) rfl rfl Try.func11 (by kernel_rfl) rfl #[.agg #[.string a0_0, .slice A0_1 l0_1.length c0_1, .slice A0_2 l0_2.length c0_2, .slice A0_3 l0_3.length c0_3]] rfl MP_ ?_; (with_reducible refine (warrantorref11_Check.calls kj33 a0_0 _ _ l0_1 _ _ l0_2 _ _ l0_3 false _ ?side1 ?side2 ?side3 ?side4 ?side5 ?side6 A65.out).mono ?_); (case side1 => repeat (first | exact (Kd.C_below HR0_1.out HB.out) | (with_reducible refine Kd.C_alloc ?_ _) | (with_reducible refine Kd.C_drewN ?_ _) | (with_reducible refine Kd.C_drew ?_))); (case side2 => exact HC0_1.out); (case side3 => repeat (first | exact (Kd.C_below HR0_2.out HB.out) | (with_reducible refine Kd.C_alloc ?_ _) | (with_reducible refine Kd.C_drewN ?_ _) | (with_reducible refine Kd.C_drew ?_))); (case side4 => exact HC0_2.out); (case side5 => repeat (first | exact (Kd.C_below HR0_3.out HB.out) | (with_reducible refine Kd.C_alloc ?_ _) | (with_reducible refine Kd.C_drewN ?_ _) | (with_reducible refine Kd.C_drew ?_))); (case side6 => exact HC0_3.out); rintro e w241 ⟨rfl, hb⟩; refine ⟨_, rfl, ?_⟩; have n0_ := Aside0.mk (Kd.R_below (by (with_reducible repeat (first | apply Kd.R_alloc | apply Kd.R_drewN | apply Kd.R_drew)); exact HO_312001.out) hb); have n1_ := Aside0.mk (blk_below (g := gb300) (o := .cells #[.string a0_0, .slice A0_1 l0_1.length c0_1, .slice A0_2 l0_2.length c0_2, .slice A0_3 l0_3.length c0_3] 26 (0, 0)) (bk_ BK300.out) hb); have n2_ := Aside0.mk (blk_below (g := gb301) (o := .cells #[.int .i64 a1_0, .slice A1_1 l1_1.length c1_1] 29 (0, 0)) (bk_ BK301.out) hb); have n3_ := Aside0.mk (blk_below (g := gb302) (o := .cells #[.int .i64 a2_0, .slice A2_1 l2_1.length c2_1] 29 (0, 0)) (bk_ BK302.out) hb); have n4_ := Aside0.mk (blk_below (g := gb303) (o := .cells #[.int .i64 a3_0, .int .i64 a3_1] 31 (0, 0)) (bk_ BK303.out) hb); have n5_ := Aside0.mk (blk_below (g := gb311) (o := .cells #[.int .i64 t306, .slice Ao51 t307.length co51] 29 (0, 0)) (bk_ BK311.out) hb); have n6_ := Aside0.mk (below_step HB_ hb); clear HO_312001; clear BK300; clear BK301; clear BK302; clear BK303; clear BK311; clear HB; have HO_312001 := n0_; have BK300 := n1_; have BK301 := n2_; have BK302 := n3_; have BK303 := n4_; have BK311 := n5_; have HB := n6_; clear n0_ n1_ n2_ n3_ n4_ n5_ n6_; (try clear hb); (try clear hb2); (try clear hk); (try clear hi); have hnb242 := NB311_301.out; have hnc242 := NB301_311.out; have hnb243 := NB311_302.out; have hnc243 := NB302_311.out; have hnb244 := NB311_303.out; have hnc244 := NB303_311.out; have hcz245_0 : w241.cell? ⟨gb311, 0, none⟩ = some (.int .i64 t306) := (blk_cell BK311.out 0).trans rfl; have hcz245_1 : w241.cell? ⟨gb311, 1, none⟩ = some (.slice Ao51 t307.length co51) := (blk_cell BK311.out 1).trans rfl; have hfz245_0 := blk_frozen BK311.out 0; have hfz245_1 := blk_frozen BK311.out 1) | (go_at_call 10; (refine (warrantorref13_Same.calls kj33 t306 _ _ t307 0 _ _ ([] : List Int) false _ ?side1 ?side2 ?side3 ?side4 A217.out).mono ?_); (case side1 => repeat (first | exact (Kd.R_reads' HO_312001.out).2.2 | (with_reducible refine Kd.C_alloc ?_ _) | (with_reducible refine Kd.C_drewN ?_ _) | (with_reducible refine Kd.C_drew ?_))); (case side2 => exact (Kd.R_reads' HO_312001.out).2.1); (case side3 => exact Kd.C_nil _ _); (case side4 => exact Nat.le_refl _); rintro e w246 ⟨rfl, hb⟩; have n0_ := Aside0.mk (Kd.R_below (by (with_reducible repeat (first | apply Kd.R_alloc | apply Kd.R_drewN | apply Kd.R_drew)); exact HO_312001.out) hb); have n1_ := Aside0.mk (blk_below (g := gb300) (o := .cells #[.string a0_0, .slice A0_1 l0_1.length c0_1, .slice A0_2 l0_2.length c0_2, .slice A0_3 l0_3.length c0_3] 26 (0, 0)) (bk_ BK300.out) hb); have n2_ := Aside0.mk (blk_below (g := gb301) (o := .cells #[.int .i64 a1_0, .slice A1_1 l1_1.length c1_1] 29 (0, 0)) (bk_ BK301.out) hb); have n3_ := Aside0.mk (blk_below (g := gb302) (o := .cells #[.int .i64 a2_0, .slice A2_1 l2_1.length c2_1] 29 (0, 0)) (bk_ BK302.out) hb); have n4_ := Aside0.mk (blk_below (g := gb303) (o := .cells #[.int .i64 a3_0, .int .i64 a3_1] 31 (0, 0)) (bk_ BK303.out) hb); have n5_ := Aside0.mk (blk_below (g := gb311) (o := .cells #[.int .i64 t306, .slice Ao51 t307.length co51] 29 (0, 0)) (bk_ BK311.out) hb); have n6_ := Aside0.mk (below_step HB_ hb); clear HO_312001; clear BK300; clear BK301; clear BK302; clear BK303; clear BK311; clear HB; have HO_312001 := n0_; have BK300 := n1_; have BK301 := n2_; have BK302 := n3_; have BK303 := n4_; have BK311 := n5_; have HB := n6_; clear n0_ n1_ n2_ n3_ n4_ n5_ n6_; (try clear hb); (try clear hb2); (try clear hk); (try clear hi)))
            go_ret
            exact ⟨by first | rfl | (simp [errW_none, errW_some] <;> rfl) | (simp [*, errW_none, errW_some] <;> rfl), HB_⟩
          subst c218
          have H1 : ((run_Right.f a0_0 l0_1 l0_2 l0_3 a1_0 l1_1).bind fun t317 => (some (!t317))) = some r := by rw [if_pos rfl] at H; exact H
          clear H
          have H := H1
          clear H1
          replace H := Option.bind_eq_some_iff.mp H
          obtain ⟨t317, A2190, H⟩ := H
          replace H : (some (!t317)) = some r := H
          have A219 := Aside0.mk A2190
          clear A2190
          obtain rfl := Option.some.inj H
          have hnb220 := NB300_301.out
          have hnc220 := NB301_300.out
          have hnb221 := NB300_302.out
          have hnc221 := NB302_300.out
          have hnb222 := NB300_303.out
          have hnc222 := NB303_300.out
          have hnb223 := NB300_311.out
          have hnc223 := NB311_300.out
          have hcz224_0 : wc.cell? ⟨gb300, 0, none⟩ = some (.string a0_0) := (blk_cell BK300.out 0).trans rfl
          have hcz224_1 : wc.cell? ⟨gb300, 1, none⟩ = some (.slice A0_1 l0_1.length c0_1) := (blk_cell BK300.out 1).trans rfl
          have hcz224_2 : wc.cell? ⟨gb300, 2, none⟩ = some (.slice A0_2 l0_2.length c0_2) := (blk_cell BK300.out 2).trans rfl
          have hcz224_3 : wc.cell? ⟨gb300, 3, none⟩ = some (.slice A0_3 l0_3.length c0_3) := (blk_cell BK300.out 3).trans rfl
          have hfz224_0 := blk_frozen BK300.out 0
          have hfz224_1 := blk_frozen BK300.out 1
          have hfz224_2 := blk_frozen BK300.out 2
          have hfz224_3 := blk_frozen BK300.out 3
          go_wp2_with (first | ((with_reducible refine gate_callee (f := 11) rfl ?_); refine goesL_ (some 43) rfl rfl Try.func11 (by kernel_rfl) rfl #[.agg #[.string a0_0, .slice A0_1 l0_1.length c0_1, .slice A0_2 l0_2.length c0_2, .slice A0_3 l0_3.length c0_3]] rfl MP_ ?_; (with_reducible refine (warrantorref11_Check.calls kj33 a0_0 _ _ l0_1 _ _ l0_2 _ _ l0_3 false _ ?side1 ?side2 ?side3 ?side4 ?side5 ?side6 A65.out).mono ?_); (case side1 => repeat (first | exact (Kd.C_below HR0_1.out HB.out) | (with_reducible refine Kd.C_alloc ?_ _) | (with_reducible refine Kd.C_drewN ?_ _) | (with_reducible refine Kd.C_drew ?_))); (case side2 => exact HC0_1.out); (case side3 => repeat (first | exact (Kd.C_below HR0_2.out HB.out) | (with_reducible refine Kd.C_alloc ?_ _) | (with_reducible refine Kd.C_drewN ?_ _) | (with_reducible refine Kd.C_drew ?_))); (case side4 => exact HC0_2.out); (case side5 => repeat (first | exact (Kd.C_below HR0_3.out HB.out) | (with_reducible refine Kd.C_alloc ?_ _) | (with_reducible refine Kd.C_drewN ?_ _) | (with_reducible refine Kd.C_drew ?_))); (case side6 => exact HC0_3.out); rintro e w225 ⟨rfl, hb⟩; refine ⟨_, rfl, ?_⟩; have n0_ := Aside0.mk (Kd.R_below (by (with_reducible repeat (first | apply Kd.R_alloc | apply Kd.R_drewN | apply Kd.R_drew)); exact HO_312001.out) hb); have n1_ := Aside0.mk (blk_below (g := gb300) (o := .cells #[.string a0_0, .slice A0_1 l0_1.length c0_1, .slice A0_2 l0_2.length c0_2, .slice A0_3 l0_3.length c0_3] 26 (0, 0)) (bk_ BK300.out) hb); have n2_ := Aside0.mk (blk_below (g := gb301) (o := .cells #[.int .i64 a1_0, .slice A1_1 l1_1.length c1_1] 29 (0, 0)) (bk_ BK301.out) hb); have n3_ := Aside0.mk (blk_below (g := gb302) (o := .cells #[.int .i64 a2_0, .slice A2_1 l2_1.length c2_1] 29 (0, 0)) (bk_ BK302.out) hb); have n4_ := Aside0.mk (blk_below (g := gb303) (o := .cells #[.int .i64 a3_0, .int .i64 a3_1] 31 (0, 0)) (bk_ BK303.out) hb); have n5_ := Aside0.mk (blk_below (g := gb311) (o := .cells #[.int .i64 t306, .slice Ao51 t307.length co51] 29 (0, 0)) (bk_ BK311.out) hb); have n6_ := Aside0.mk (below_step HB_ hb); clear HO_312001; clear BK300; clear BK301; clear BK302; clear BK303; clear BK311; clear HB; have HO_312001 := n0_; have BK300 := n1_; have BK301 := n2_; have BK302 := n3_; have BK303 := n4_; have BK311 := n5_; have HB := n6_; clear n0_ n1_ n2_ n3_ n4_ n5_ n6_; (try clear hb); (try clear hb2); (try clear hk); (try clear hi); have hnb226 := NB311_301.out; have hnc226 := NB301_311.out; have hnb227 := NB311_302.out; have hnc227 := NB302_311.out; have hnb228 := NB311_303.out; have hnc228 := NB303_311.out; have hcz229_0 : w225.cell? ⟨gb311, 0, none⟩ = some (.int .i64 t306) := (blk_cell BK311.out 0).trans rfl; have hcz229_1 : w225.cell? ⟨gb311, 1, none⟩ = some (.slice Ao51 t307.length co51) := (blk_cell BK311.out 1).trans rfl; have hfz229_0 := blk_frozen BK311.out 0; have hfz229_1 := blk_frozen BK311.out 1) | (go_at_call 10; (refine (warrantorref13_Same.calls kj33 t306 _ _ t307 0 _ _ ([] : List Int) true _ ?side1 ?side2 ?side3 ?side4 A217.out).mono ?_); (case side1 => repeat (first | exact (Kd.R_reads' HO_312001.out).2.2 | (with_reducible refine Kd.C_alloc ?_ _) | (with_reducible refine Kd.C_drewN ?_ _) | (with_reducible refine Kd.C_drew ?_))); (case side2 => exact (Kd.R_reads' HO_312001.out).2.1); (case side3 => exact Kd.C_nil _ _); (case side4 => exact Nat.le_refl _); rintro e w230 ⟨rfl, hb⟩; have n0_ := Aside0.mk (Kd.R_below (by (with_reducible repeat (first | apply Kd.R_alloc | apply Kd.R_drewN | apply Kd.R_drew)); exact HO_312001.out) hb); have n1_ := Aside0.mk (blk_below (g := gb300) (o := .cells #[.string a0_0, .slice A0_1 l0_1.length c0_1, .slice A0_2 l0_2.length c0_2, .slice A0_3 l0_3.length c0_3] 26 (0, 0)) (bk_ BK300.out) hb); have n2_ := Aside0.mk (blk_below (g := gb301) (o := .cells #[.int .i64 a1_0, .slice A1_1 l1_1.length c1_1] 29 (0, 0)) (bk_ BK301.out) hb); have n3_ := Aside0.mk (blk_below (g := gb302) (o := .cells #[.int .i64 a2_0, .slice A2_1 l2_1.length c2_1] 29 (0, 0)) (bk_ BK302.out) hb); have n4_ := Aside0.mk (blk_below (g := gb303) (o := .cells #[.int .i64 a3_0, .int .i64 a3_1] 31 (0, 0)) (bk_ BK303.out) hb); have n5_ := Aside0.mk (blk_below (g := gb311) (o := .cells #[.int .i64 t306, .slice Ao51 t307.length co51] 29 (0, 0)) (bk_ BK311.out) hb); have n6_ := Aside0.mk (below_step HB_ hb); clear HO_312001; clear BK300; clear BK301; clear BK302; clear BK303; clear BK311; clear HB; have HO_312001 := n0_; have BK300 := n1_; have BK301 := n2_; have BK302 := n3_; have BK303 := n4_; have BK311 := n5_; have HB := n6_; clear n0_ n1_ n2_ n3_ n4_ n5_ n6_; (try clear hb); (try clear hb2); (try clear hk); (try clear hi); have hcz231_0 : w230.cell? ⟨gb300, 0, none⟩ = some (.string a0_0) := (blk_cell BK300.out 0).trans rfl; have hcz231_1 : w230.cell? ⟨gb300, 1, none⟩ = some (.slice A0_1 l0_1.length c0_1) := (blk_cell BK300.out 1).trans rfl; have hcz231_2 : w230.cell? ⟨gb300, 2, none⟩ = some (.slice A0_2 l0_2.length c0_2) := (blk_cell BK300.out 2).trans rfl; have hcz231_3 : w230.cell? ⟨gb300, 3, none⟩ = some (.slice A0_3 l0_3.length c0_3) := (blk_cell BK300.out 3).trans rfl; have hfz231_0 := blk_frozen BK300.out 0; have hfz231_1 := blk_frozen BK300.out 1; have hfz231_2 := blk_frozen BK300.out 2; have hfz231_3 := blk_frozen BK300.out 3; have hnb232 := NB301_302.out; have hnc232 := NB302_301.out; have hnb233 := NB301_303.out; have hnc233 := NB303_301.out; have hcz234_0 : w230.cell? ⟨gb301, 0, none⟩ = some (.int .i64 a1_0) := (blk_cell BK301.out 0).trans rfl; have hcz234_1 : w230.cell? ⟨gb301, 1, none⟩ = some (.slice A1_1 l1_1.length c1_1) := (blk_cell BK301.out 1).trans rfl; have hfz234_0 := blk_frozen BK301.out 0; have hfz234_1 := blk_frozen BK301.out 1) | (go_at_call 12; (with_reducible refine (run_Right.calls a0_0 _ _ l0_1 _ _ l0_2 _ _ l0_3 a1_0 _ _ l1_1 t317 _ ?side1 ?side2 ?side3 ?side4 ?side5 ?side6 ?side7 ?side8 A219.out).mono ?_); (case side1 => repeat (first | exact (Kd.C_below HR0_1.out HB.out) | (with_reducible refine Kd.C_alloc ?_ _) | (with_reducible refine Kd.C_drewN ?_ _) | (with_reducible refine Kd.C_drew ?_))); (case side2 => exact HC0_1.out); (case side3 => repeat (first | exact (Kd.C_below HR0_2.out HB.out) | (with_reducible refine Kd.C_alloc ?_ _) | (with_reducible refine Kd.C_drewN ?_ _) | (with_reducible refine Kd.C_drew ?_))); (case side4 => exact HC0_2.out); (case side5 => repeat (first | exact (Kd.C_below HR0_3.out HB.out) | (with_reducible refine Kd.C_alloc ?_ _) | (with_reducible refine Kd.C_drewN ?_ _) | (with_reducible refine Kd.C_drew ?_))); (case side6 => exact HC0_3.out); (case side7 => repeat (first | exact (Kd.C_below HR1_1.out HB.out) | (with_reducible refine Kd.C_alloc ?_ _) | (with_reducible refine Kd.C_drewN ?_ _) | (with_reducible refine Kd.C_drew ?_))); (case side8 => exact HC1_1.out); rintro e w235 ⟨rfl, hb⟩; have n0_ := Aside0.mk (Kd.R_below (by (with_reducible repeat (first | apply Kd.R_alloc | apply Kd.R_drewN | apply Kd.R_drew)); exact HO_312001.out) hb); have n1_ := Aside0.mk (blk_below (g := gb300) (o := .cells #[.string a0_0, .slice A0_1 l0_1.length c0_1, .slice A0_2 l0_2.length c0_2, .slice A0_3 l0_3.length c0_3] 26 (0, 0)) (bk_ BK300.out) hb); have n2_ := Aside0.mk (blk_below (g := gb301) (o := .cells #[.int .i64 a1_0, .slice A1_1 l1_1.length c1_1] 29 (0, 0)) (bk_ BK301.out) hb); have n3_ := Aside0.mk (blk_below (g := gb302) (o := .cells #[.int .i64 a2_0, .slice A2_1 l2_1.length c2_1] 29 (0, 0)) (bk_ BK302.out) hb); have n4_ := Aside0.mk (blk_below (g := gb303) (o := .cells #[.int .i64 a3_0, .int .i64 a3_1] 31 (0, 0)) (bk_ BK303.out) hb); have n5_ := Aside0.mk (blk_below (g := gb311) (o := .cells #[.int .i64 t306, .slice Ao51 t307.length co51] 29 (0, 0)) (bk_ BK311.out) hb); have n6_ := Aside0.mk (below_step HB_ hb); clear HO_312001; clear BK300; clear BK301; clear BK302; clear BK303; clear BK311; clear HB; have HO_312001 := n0_; have BK300 := n1_; have BK301 := n2_; have BK302 := n3_; have BK303 := n4_; have BK311 := n5_; have HB := n6_; clear n0_ n1_ n2_ n3_ n4_ n5_ n6_; (try clear hb); (try clear hb2); (try clear hk); (try clear hi)))
          go_ret
          exact ⟨by first | rfl | (simp [errW_none, errW_some] <;> rfl) | (simp [*, errW_none, errW_some] <;> rfl), HB_⟩
        subst c66
        have H1 : ((warrantorref13_Right.f kj33 a0_0 l0_1 l0_2 l0_3 a1_0 l1_1).bind fun t318 => (if t318 = true then ((warrantorref13_Step.f kj33 a0_0 l0_1 l0_2 l0_3 a1_0 l1_1 a3_0 a3_1).bind fun bt319 => ((run_Right.f a0_0 l0_1 l0_2 l0_3 a1_0 l1_1).bind fun t325 => (if t325 = true then (if t310 = bt319.2.2 then ((warrantorref13_Same.f kj33 t306 t307 bt319.1 bt319.2.1).bind fun t326 => (some t326)) else (some false)) else (some false)))) else (if t310 = 1 then ((warrantorref13_Same.f kj33 t306 t307 0 ([] : List Int)).bind fun t327 => (if t327 = true then ((run_Right.f a0_0 l0_1 l0_2 l0_3 a1_0 l1_1).bind fun t328 => (some (!t328))) else (some false))) else (some false)))) = some r := by rw [if_pos rfl] at H; exact H
        clear H
        have H := H1
        clear H1
        replace H := Option.bind_eq_some_iff.mp H
        obtain ⟨t318, A670, H⟩ := H
        replace H : (if t318 = true then ((warrantorref13_Step.f kj33 a0_0 l0_1 l0_2 l0_3 a1_0 l1_1 a3_0 a3_1).bind fun bt319 => ((run_Right.f a0_0 l0_1 l0_2 l0_3 a1_0 l1_1).bind fun t325 => (if t325 = true then (if t310 = bt319.2.2 then ((warrantorref13_Same.f kj33 t306 t307 bt319.1 bt319.2.1).bind fun t326 => (some t326)) else (some false)) else (some false)))) else (if t310 = 1 then ((warrantorref13_Same.f kj33 t306 t307 0 ([] : List Int)).bind fun t327 => (if t327 = true then ((run_Right.f a0_0 l0_1 l0_2 l0_3 a1_0 l1_1).bind fun t328 => (some (!t328))) else (some false))) else (some false))) = some r := H
        have A67 := Aside0.mk A670
        clear A670
        by_cases c68 : t318 = true
        rotate_left
        · replace c68 := Bool.eq_false_iff.mpr c68
          subst c68
          have H1 : (if t310 = 1 then ((warrantorref13_Same.f kj33 t306 t307 0 ([] : List Int)).bind fun t327 => (if t327 = true then ((run_Right.f a0_0 l0_1 l0_2 l0_3 a1_0 l1_1).bind fun t328 => (some (!t328))) else (some false))) else (some false)) = some r := by rw [if_neg (show ¬ (false = true) by decide)] at H; exact H
          clear H
          have H := H1
          clear H1
          by_cases c165 : t310 = 1
          rotate_left
          · rw [if_neg c165] at H
            have c165b0 : (t310 == 1) = false := beq_eq_false_iff_ne.mpr c165
            have c165b1 : (t310 != 1) = true := bne_iff_ne.mpr c165
            obtain rfl := Option.some.inj H
            have hnb204 := NB300_301.out
            have hnc204 := NB301_300.out
            have hnb205 := NB300_302.out
            have hnc205 := NB302_300.out
            have hnb206 := NB300_303.out
            have hnc206 := NB303_300.out
            have hnb207 := NB300_311.out
            have hnc207 := NB311_300.out
            have hcz208_0 : wc.cell? ⟨gb300, 0, none⟩ = some (.string a0_0) := (blk_cell BK300.out 0).trans rfl
            have hcz208_1 : wc.cell? ⟨gb300, 1, none⟩ = some (.slice A0_1 l0_1.length c0_1) := (blk_cell BK300.out 1).trans rfl
            have hcz208_2 : wc.cell? ⟨gb300, 2, none⟩ = some (.slice A0_2 l0_2.length c0_2) := (blk_cell BK300.out 2).trans rfl
            have hcz208_3 : wc.cell? ⟨gb300, 3, none⟩ = some (.slice A0_3 l0_3.length c0_3) := (blk_cell BK300.out 3).trans rfl
            have hfz208_0 := blk_frozen BK300.out 0
            have hfz208_1 := blk_frozen BK300.out 1
            have hfz208_2 := blk_frozen BK300.out 2
            have hfz208_3 := blk_frozen BK300.out 3
            go_wp2_with (first | ((with_reducible refine gate_callee (f := 11) rfl ?_); refine goesL_ (some 43) rfl rfl Try.func11 (by kernel_rfl) rfl #[.agg #[.string a0_0, .slice A0_1 l0_1.length c0_1, .slice A0_2 l0_2.length c0_2, .slice A0_3 l0_3.length c0_3]] rfl MP_ ?_; (with_reducible refine (warrantorref11_Check.calls kj33 a0_0 _ _ l0_1 _ _ l0_2 _ _ l0_3 true _ ?side1 ?side2 ?side3 ?side4 ?side5 ?side6 A65.out).mono ?_); (case side1 => repeat (first | exact (Kd.C_below HR0_1.out HB.out) | (with_reducible refine Kd.C_alloc ?_ _) | (with_reducible refine Kd.C_drewN ?_ _) | (with_reducible refine Kd.C_drew ?_))); (case side2 => exact HC0_1.out); (case side3 => repeat (first | exact (Kd.C_below HR0_2.out HB.out) | (with_reducible refine Kd.C_alloc ?_ _) | (with_reducible refine Kd.C_drewN ?_ _) | (with_reducible refine Kd.C_drew ?_))); (case side4 => exact HC0_2.out); (case side5 => repeat (first | exact (Kd.C_below HR0_3.out HB.out) | (with_reducible refine Kd.C_alloc ?_ _) | (with_reducible refine Kd.C_drewN ?_ _) | (with_reducible refine Kd.C_drew ?_))); (case side6 => exact HC0_3.out); rintro e w209 ⟨rfl, hb⟩; refine ⟨_, rfl, ?_⟩; have n0_ := Aside0.mk (Kd.R_below (by (with_reducible repeat (first | apply Kd.R_alloc | apply Kd.R_drewN | apply Kd.R_drew)); exact HO_312001.out) hb); have n1_ := Aside0.mk (blk_below (g := gb300) (o := .cells #[.string a0_0, .slice A0_1 l0_1.length c0_1, .slice A0_2 l0_2.length c0_2, .slice A0_3 l0_3.length c0_3] 26 (0, 0)) (bk_ BK300.out) hb); have n2_ := Aside0.mk (blk_below (g := gb301) (o := .cells #[.int .i64 a1_0, .slice A1_1 l1_1.length c1_1] 29 (0, 0)) (bk_ BK301.out) hb); have n3_ := Aside0.mk (blk_below (g := gb302) (o := .cells #[.int .i64 a2_0, .slice A2_1 l2_1.length c2_1] 29 (0, 0)) (bk_ BK302.out) hb); have n4_ := Aside0.mk (blk_below (g := gb303) (o := .cells #[.int .i64 a3_0, .int .i64 a3_1] 31 (0, 0)) (bk_ BK303.out) hb); have n5_ := Aside0.mk (blk_below (g := gb311) (o := .cells #[.int .i64 t306, .slice Ao51 t307.length co51] 29 (0, 0)) (bk_ BK311.out) hb); have n6_ := Aside0.mk (below_step HB_ hb); clear HO_312001; clear BK300; clear BK301; clear BK302; clear BK303; clear BK311; clear HB; have HO_312001 := n0_; have BK300 := n1_; have BK301 := n2_; have BK302 := n3_; have BK303 := n4_; have BK311 := n5_; have HB := n6_; clear n0_ n1_ n2_ n3_ n4_ n5_ n6_; (try clear hb); (try clear hb2); (try clear hk); (try clear hi); have hcz210_0 : w209.cell? ⟨gb300, 0, none⟩ = some (.string a0_0) := (blk_cell BK300.out 0).trans rfl; have hcz210_1 : w209.cell? ⟨gb300, 1, none⟩ = some (.slice A0_1 l0_1.length c0_1) := (blk_cell BK300.out 1).trans rfl; have hcz210_2 : w209.cell? ⟨gb300, 2, none⟩ = some (.slice A0_2 l0_2.length c0_2) := (blk_cell BK300.out 2).trans rfl; have hcz210_3 : w209.cell? ⟨gb300, 3, none⟩ = some (.slice A0_3 l0_3.length c0_3) := (blk_cell BK300.out 3).trans rfl; have hfz210_0 := blk_frozen BK300.out 0; have hfz210_1 := blk_frozen BK300.out 1; have hfz210_2 := blk_frozen BK300.out 2; have hfz210_3 := blk_frozen BK300.out 3; have hnb211 := NB301_302.out; have hnc211 := NB302_301.out; have hnb212 := NB301_303.out; have hnc212 := NB303_301.out; have hnb213 := NB301_311.out; have hnc213 := NB311_301.out; have hcz214_0 : w209.cell? ⟨gb301, 0, none⟩ = some (.int .i64 a1_0) := (blk_cell BK301.out 0).trans rfl; have hcz214_1 : w209.cell? ⟨gb301, 1, none⟩ = some (.slice A1_1 l1_1.length c1_1) := (blk_cell BK301.out 1).trans rfl; have hfz214_0 := blk_frozen BK301.out 0; have hfz214_1 := blk_frozen BK301.out 1) | ((with_reducible refine gate_callee (f := 13) rfl ?_); refine goesL_ (some 60) rfl rfl Try.func13 (by kernel_rfl) rfl #[.agg #[.string a0_0, .slice A0_1 l0_1.length c0_1, .slice A0_2 l0_2.length c0_2, .slice A0_3 l0_3.length c0_3], .agg #[.int .i64 a1_0, .slice A1_1 l1_1.length c1_1]] rfl MP_ ?_; (with_reducible refine (warrantorref13_Right.calls kj33 a0_0 _ _ l0_1 _ _ l0_2 _ _ l0_3 a1_0 _ _ l1_1 false _ ?side1 ?side2 ?side3 ?side4 ?side5 ?side6 ?side7 ?side8 A67.out).mono ?_); (case side1 => repeat (first | exact (Kd.C_below HR0_1.out HB.out) | (with_reducible refine Kd.C_alloc ?_ _) | (with_reducible refine Kd.C_drewN ?_ _) | (with_reducible refine Kd.C_drew ?_))); (case side2 => exact HC0_1.out); (case side3 => repeat (first | exact (Kd.C_below HR0_2.out HB.out) | (with_reducible refine Kd.C_alloc ?_ _) | (with_reducible refine Kd.C_drewN ?_ _) | (with_reducible refine Kd.C_drew ?_))); (case side4 => exact HC0_2.out); (case side5 => repeat (first | exact (Kd.C_below HR0_3.out HB.out) | (with_reducible refine Kd.C_alloc ?_ _) | (with_reducible refine Kd.C_drewN ?_ _) | (with_reducible refine Kd.C_drew ?_))); (case side6 => exact HC0_3.out); (case side7 => repeat (first | exact (Kd.C_below HR1_1.out HB.out) | (with_reducible refine Kd.C_alloc ?_ _) | (with_reducible refine Kd.C_drewN ?_ _) | (with_reducible refine Kd.C_drew ?_))); (case side8 => exact HC1_1.out); rintro e w215 ⟨rfl, hb⟩; refine ⟨_, rfl, ?_⟩; have n0_ := Aside0.mk (Kd.R_below (by (with_reducible repeat (first | apply Kd.R_alloc | apply Kd.R_drewN | apply Kd.R_drew)); exact HO_312001.out) hb); have n1_ := Aside0.mk (blk_below (g := gb300) (o := .cells #[.string a0_0, .slice A0_1 l0_1.length c0_1, .slice A0_2 l0_2.length c0_2, .slice A0_3 l0_3.length c0_3] 26 (0, 0)) (bk_ BK300.out) hb); have n2_ := Aside0.mk (blk_below (g := gb301) (o := .cells #[.int .i64 a1_0, .slice A1_1 l1_1.length c1_1] 29 (0, 0)) (bk_ BK301.out) hb); have n3_ := Aside0.mk (blk_below (g := gb302) (o := .cells #[.int .i64 a2_0, .slice A2_1 l2_1.length c2_1] 29 (0, 0)) (bk_ BK302.out) hb); have n4_ := Aside0.mk (blk_below (g := gb303) (o := .cells #[.int .i64 a3_0, .int .i64 a3_1] 31 (0, 0)) (bk_ BK303.out) hb); have n5_ := Aside0.mk (blk_below (g := gb311) (o := .cells #[.int .i64 t306, .slice Ao51 t307.length co51] 29 (0, 0)) (bk_ BK311.out) hb); have n6_ := Aside0.mk (below_step HB_ hb); clear HO_312001; clear BK300; clear BK301; clear BK302; clear BK303; clear BK311; clear HB; have HO_312001 := n0_; have BK300 := n1_; have BK301 := n2_; have BK302 := n3_; have BK303 := n4_; have BK311 := n5_; have HB := n6_; clear n0_ n1_ n2_ n3_ n4_ n5_ n6_; (try clear hb); (try clear hb2); (try clear hk); (try clear hi)))
            go_ret
            exact ⟨by first | rfl | (simp [errW_none, errW_some] <;> rfl) | (simp [*, errW_none, errW_some] <;> rfl), HB_⟩
          rw [if_pos c165] at H
          have c165b0 : (t310 == 1) = true := beq_iff_eq.mpr c165
          have c165b1 : (t310 != 1) = false := bne_eq_false_iff_eq.mpr c165
          clear c165
          replace H := Option.bind_eq_some_iff.mp H
          obtain ⟨t327, A1660, H⟩ := H
          replace H : (if t327 = true then ((run_Right.f a0_0 l0_1 l0_2 l0_3 a1_0 l1_1).bind fun t328 => (some (!t328))) else (some false)) = some r := H
          have A166 := Aside0.mk A1660
          clear A1660
          by_cases c167 : t327 = true
          rotate_left
          · replace c167 := Bool.eq_false_iff.mpr c167
            subst c167
            have H1 : (some false) = some r := by rw [if_neg (show ¬ (false = true) by decide)] at H; exact H
            clear H
            have H := H1
            clear H1
            obtain rfl := Option.some.inj H
            have hnb188 := NB300_301.out
            have hnc188 := NB301_300.out
            have hnb189 := NB300_302.out
            have hnc189 := NB302_300.out
            have hnb190 := NB300_303.out
            have hnc190 := NB303_300.out
            have hnb191 := NB300_311.out
            have hnc191 := NB311_300.out
            have hcz192_0 : wc.cell? ⟨gb300, 0, none⟩ = some (.string a0_0) := (blk_cell BK300.out 0).trans rfl
            have hcz192_1 : wc.cell? ⟨gb300, 1, none⟩ = some (.slice A0_1 l0_1.length c0_1) := (blk_cell BK300.out 1).trans rfl
            have hcz192_2 : wc.cell? ⟨gb300, 2, none⟩ = some (.slice A0_2 l0_2.length c0_2) := (blk_cell BK300.out 2).trans rfl
            have hcz192_3 : wc.cell? ⟨gb300, 3, none⟩ = some (.slice A0_3 l0_3.length c0_3) := (blk_cell BK300.out 3).trans rfl
            have hfz192_0 := blk_frozen BK300.out 0
            have hfz192_1 := blk_frozen BK300.out 1
            have hfz192_2 := blk_frozen BK300.out 2
            have hfz192_3 := blk_frozen BK300.out 3
            go_wp2_with (first | ((with_reducible refine gate_callee (f := 11) rfl ?_); refine goesL_ (some 43) rfl rfl Try.func11 (by kernel_rfl) rfl #[.agg #[.string a0_0, .slice A0_1 l0_1.length c0_1, .slice A0_2 l0_2.length c0_2, .slice A0_3 l0_3.length c0_3]] rfl MP_ ?_; (with_reducible refine (warrantorref11_Check.calls kj33 a0_0 _ _ l0_1 _ _ l0_2 _ _ l0_3 true _ ?side1 ?side2 ?side3 ?side4 ?side5 ?side6 A65.out).mono ?_); (case side1 => repeat (first | exact (Kd.C_below HR0_1.out HB.out) | (with_reducible refine Kd.C_alloc ?_ _) | (with_reducible refine Kd.C_drewN ?_ _) | (with_reducible refine Kd.C_drew ?_))); (case side2 => exact HC0_1.out); (case side3 => repeat (first | exact (Kd.C_below HR0_2.out HB.out) | (with_reducible refine Kd.C_alloc ?_ _) | (with_reducible refine Kd.C_drewN ?_ _) | (with_reducible refine Kd.C_drew ?_))); (case side4 => exact HC0_2.out); (case side5 => repeat (first | exact (Kd.C_below HR0_3.out HB.out) | (with_reducible refine Kd.C_alloc ?_ _) | (with_reducible refine Kd.C_drewN ?_ _) | (with_reducible refine Kd.C_drew ?_))); (case side6 => exact HC0_3.out); rintro e w193 ⟨rfl, hb⟩; refine ⟨_, rfl, ?_⟩; have n0_ := Aside0.mk (Kd.R_below (by (with_reducible repeat (first | apply Kd.R_alloc | apply Kd.R_drewN | apply Kd.R_drew)); exact HO_312001.out) hb); have n1_ := Aside0.mk (blk_below (g := gb300) (o := .cells #[.string a0_0, .slice A0_1 l0_1.length c0_1, .slice A0_2 l0_2.length c0_2, .slice A0_3 l0_3.length c0_3] 26 (0, 0)) (bk_ BK300.out) hb); have n2_ := Aside0.mk (blk_below (g := gb301) (o := .cells #[.int .i64 a1_0, .slice A1_1 l1_1.length c1_1] 29 (0, 0)) (bk_ BK301.out) hb); have n3_ := Aside0.mk (blk_below (g := gb302) (o := .cells #[.int .i64 a2_0, .slice A2_1 l2_1.length c2_1] 29 (0, 0)) (bk_ BK302.out) hb); have n4_ := Aside0.mk (blk_below (g := gb303) (o := .cells #[.int .i64 a3_0, .int .i64 a3_1] 31 (0, 0)) (bk_ BK303.out) hb); have n5_ := Aside0.mk (blk_below (g := gb311) (o := .cells #[.int .i64 t306, .slice Ao51 t307.length co51] 29 (0, 0)) (bk_ BK311.out) hb); have n6_ := Aside0.mk (below_step HB_ hb); clear HO_312001; clear BK300; clear BK301; clear BK302; clear BK303; clear BK311; clear HB; have HO_312001 := n0_; have BK300 := n1_; have BK301 := n2_; have BK302 := n3_; have BK303 := n4_; have BK311 := n5_; have HB := n6_; clear n0_ n1_ n2_ n3_ n4_ n5_ n6_; (try clear hb); (try clear hb2); (try clear hk); (try clear hi); have hcz194_0 : w193.cell? ⟨gb300, 0, none⟩ = some (.string a0_0) := (blk_cell BK300.out 0).trans rfl; have hcz194_1 : w193.cell? ⟨gb300, 1, none⟩ = some (.slice A0_1 l0_1.length c0_1) := (blk_cell BK300.out 1).trans rfl; have hcz194_2 : w193.cell? ⟨gb300, 2, none⟩ = some (.slice A0_2 l0_2.length c0_2) := (blk_cell BK300.out 2).trans rfl; have hcz194_3 : w193.cell? ⟨gb300, 3, none⟩ = some (.slice A0_3 l0_3.length c0_3) := (blk_cell BK300.out 3).trans rfl; have hfz194_0 := blk_frozen BK300.out 0; have hfz194_1 := blk_frozen BK300.out 1; have hfz194_2 := blk_frozen BK300.out 2; have hfz194_3 := blk_frozen BK300.out 3; have hnb195 := NB301_302.out; have hnc195 := NB302_301.out; have hnb196 := NB301_303.out; have hnc196 := NB303_301.out; have hnb197 := NB301_311.out; have hnc197 := NB311_301.out; have hcz198_0 : w193.cell? ⟨gb301, 0, none⟩ = some (.int .i64 a1_0) := (blk_cell BK301.out 0).trans rfl; have hcz198_1 : w193.cell? ⟨gb301, 1, none⟩ = some (.slice A1_1 l1_1.length c1_1) := (blk_cell BK301.out 1).trans rfl; have hfz198_0 := blk_frozen BK301.out 0; have hfz198_1 := blk_frozen BK301.out 1) | ((with_reducible refine gate_callee (f := 13) rfl ?_); refine goesL_ (some 60) rfl rfl Try.func13 (by kernel_rfl) rfl #[.agg #[.string a0_0, .slice A0_1 l0_1.length c0_1, .slice A0_2 l0_2.length c0_2, .slice A0_3 l0_3.length c0_3], .agg #[.int .i64 a1_0, .slice A1_1 l1_1.length c1_1]] rfl MP_ ?_; (with_reducible refine (warrantorref13_Right.calls kj33 a0_0 _ _ l0_1 _ _ l0_2 _ _ l0_3 a1_0 _ _ l1_1 false _ ?side1 ?side2 ?side3 ?side4 ?side5 ?side6 ?side7 ?side8 A67.out).mono ?_); (case side1 => repeat (first | exact (Kd.C_below HR0_1.out HB.out) | (with_reducible refine Kd.C_alloc ?_ _) | (with_reducible refine Kd.C_drewN ?_ _) | (with_reducible refine Kd.C_drew ?_))); (case side2 => exact HC0_1.out); (case side3 => repeat (first | exact (Kd.C_below HR0_2.out HB.out) | (with_reducible refine Kd.C_alloc ?_ _) | (with_reducible refine Kd.C_drewN ?_ _) | (with_reducible refine Kd.C_drew ?_))); (case side4 => exact HC0_2.out); (case side5 => repeat (first | exact (Kd.C_below HR0_3.out HB.out) | (with_reducible refine Kd.C_alloc ?_ _) | (with_reducible refine Kd.C_drewN ?_ _) | (with_reducible refine Kd.C_drew ?_))); (case side6 => exact HC0_3.out); (case side7 => repeat (first | exact (Kd.C_below HR1_1.out HB.out) | (with_reducible refine Kd.C_alloc ?_ _) | (with_reducible refine Kd.C_drewN ?_ _) | (with_reducible refine Kd.C_drew ?_))); (case side8 => exact HC1_1.out); rintro e w199 ⟨rfl, hb⟩; refine ⟨_, rfl, ?_⟩; have n0_ := Aside0.mk (Kd.R_below (by (with_reducible repeat (first | apply Kd.R_alloc | apply Kd.R_drewN | apply Kd.R_drew)); exact HO_312001.out) hb); have n1_ := Aside0.mk (blk_below (g := gb300) (o := .cells #[.string a0_0, .slice A0_1 l0_1.length c0_1, .slice A0_2 l0_2.length c0_2, .slice A0_3 l0_3.length c0_3] 26 (0, 0)) (bk_ BK300.out) hb); have n2_ := Aside0.mk (blk_below (g := gb301) (o := .cells #[.int .i64 a1_0, .slice A1_1 l1_1.length c1_1] 29 (0, 0)) (bk_ BK301.out) hb); have n3_ := Aside0.mk (blk_below (g := gb302) (o := .cells #[.int .i64 a2_0, .slice A2_1 l2_1.length c2_1] 29 (0, 0)) (bk_ BK302.out) hb); have n4_ := Aside0.mk (blk_below (g := gb303) (o := .cells #[.int .i64 a3_0, .int .i64 a3_1] 31 (0, 0)) (bk_ BK303.out) hb); have n5_ := Aside0.mk (blk_below (g := gb311) (o := .cells #[.int .i64 t306, .slice Ao51 t307.length co51] 29 (0, 0)) (bk_ BK311.out) hb); have n6_ := Aside0.mk (below_step HB_ hb); clear HO_312001; clear BK300; clear BK301; clear BK302; clear BK303; clear BK311; clear HB; have HO_312001 := n0_; have BK300 := n1_; have BK301 := n2_; have BK302 := n3_; have BK303 := n4_; have BK311 := n5_; have HB := n6_; clear n0_ n1_ n2_ n3_ n4_ n5_ n6_; (try clear hb); (try clear hb2); (try clear hk); (try clear hi); have hnb200 := NB311_302.out; have hnc200 := NB302_311.out; have hnb201 := NB311_303.out; have hnc201 := NB303_311.out; have hcz202_0 : w199.cell? ⟨gb311, 0, none⟩ = some (.int .i64 t306) := (blk_cell BK311.out 0).trans rfl; have hcz202_1 : w199.cell? ⟨gb311, 1, none⟩ = some (.slice Ao51 t307.length co51) := (blk_cell BK311.out 1).trans rfl; have hfz202_0 := blk_frozen BK311.out 0; have hfz202_1 := blk_frozen BK311.out 1) | (go_at_call 10; (refine (warrantorref13_Same.calls kj33 t306 _ _ t307 0 _ _ ([] : List Int) false _ ?side1 ?side2 ?side3 ?side4 A166.out).mono ?_); (case side1 => repeat (first | exact (Kd.R_reads' HO_312001.out).2.2 | (with_reducible refine Kd.C_alloc ?_ _) | (with_reducible refine Kd.C_drewN ?_ _) | (with_reducible refine Kd.C_drew ?_))); (case side2 => exact (Kd.R_reads' HO_312001.out).2.1); (case side3 => exact Kd.C_nil _ _); (case side4 => exact Nat.le_refl _); rintro e w203 ⟨rfl, hb⟩; have n0_ := Aside0.mk (Kd.R_below (by (with_reducible repeat (first | apply Kd.R_alloc | apply Kd.R_drewN | apply Kd.R_drew)); exact HO_312001.out) hb); have n1_ := Aside0.mk (blk_below (g := gb300) (o := .cells #[.string a0_0, .slice A0_1 l0_1.length c0_1, .slice A0_2 l0_2.length c0_2, .slice A0_3 l0_3.length c0_3] 26 (0, 0)) (bk_ BK300.out) hb); have n2_ := Aside0.mk (blk_below (g := gb301) (o := .cells #[.int .i64 a1_0, .slice A1_1 l1_1.length c1_1] 29 (0, 0)) (bk_ BK301.out) hb); have n3_ := Aside0.mk (blk_below (g := gb302) (o := .cells #[.int .i64 a2_0, .slice A2_1 l2_1.length c2_1] 29 (0, 0)) (bk_ BK302.out) hb); have n4_ := Aside0.mk (blk_below (g := gb303) (o := .cells #[.int .i64 a3_0, .int .i64 a3_1] 31 (0, 0)) (bk_ BK303.out) hb); have n5_ := Aside0.mk (blk_below (g := gb311) (o := .cells #[.int .i64 t306, .slice Ao51 t307.length co51] 29 (0, 0)) (bk_ BK311.out) hb); have n6_ := Aside0.mk (below_step HB_ hb); clear HO_312001; clear BK300; clear BK301; clear BK302; clear BK303; clear BK311; clear HB; have HO_312001 := n0_; have BK300 := n1_; have BK301 := n2_; have BK302 := n3_; have BK303 := n4_; have BK311 := n5_; have HB := n6_; clear n0_ n1_ n2_ n3_ n4_ n5_ n6_; (try clear hb); (try clear hb2); (try clear hk); (try clear hi)))
            go_ret
            exact ⟨by first | rfl | (simp [errW_none, errW_some] <;> rfl) | (simp [*, errW_none, errW_some] <;> rfl), HB_⟩
          subst c167
          have H1 : ((run_Right.f a0_0 l0_1 l0_2 l0_3 a1_0 l1_1).bind fun t328 => (some (!t328))) = some r := by rw [if_pos rfl] at H; exact H
          clear H
          have H := H1
          clear H1
          replace H := Option.bind_eq_some_iff.mp H
          obtain ⟨t328, A1680, H⟩ := H
          replace H : (some (!t328)) = some r := H
          have A168 := Aside0.mk A1680
          clear A1680
          obtain rfl := Option.some.inj H
          have hnb169 := NB300_301.out
          have hnc169 := NB301_300.out
          have hnb170 := NB300_302.out
          have hnc170 := NB302_300.out
          have hnb171 := NB300_303.out
          have hnc171 := NB303_300.out
          have hnb172 := NB300_311.out
          have hnc172 := NB311_300.out
          have hcz173_0 : wc.cell? ⟨gb300, 0, none⟩ = some (.string a0_0) := (blk_cell BK300.out 0).trans rfl
          have hcz173_1 : wc.cell? ⟨gb300, 1, none⟩ = some (.slice A0_1 l0_1.length c0_1) := (blk_cell BK300.out 1).trans rfl
          have hcz173_2 : wc.cell? ⟨gb300, 2, none⟩ = some (.slice A0_2 l0_2.length c0_2) := (blk_cell BK300.out 2).trans rfl
          have hcz173_3 : wc.cell? ⟨gb300, 3, none⟩ = some (.slice A0_3 l0_3.length c0_3) := (blk_cell BK300.out 3).trans rfl
          have hfz173_0 := blk_frozen BK300.out 0
          have hfz173_1 := blk_frozen BK300.out 1
          have hfz173_2 := blk_frozen BK300.out 2
          have hfz173_3 := blk_frozen BK300.out 3
          go_wp2_with (first | ((with_reducible refine gate_callee (f := 11) rfl ?_); refine goesL_ (some 43) rfl rfl Try.func11 (by kernel_rfl) rfl #[.agg #[.string a0_0, .slice A0_1 l0_1.length c0_1, .slice A0_2 l0_2.length c0_2, .slice A0_3 l0_3.length c0_3]] rfl MP_ ?_; (with_reducible refine (warrantorref11_Check.calls kj33 a0_0 _ _ l0_1 _ _ l0_2 _ _ l0_3 true _ ?side1 ?side2 ?side3 ?side4 ?side5 ?side6 A65.out).mono ?_); (case side1 => repeat (first | exact (Kd.C_below HR0_1.out HB.out) | (with_reducible refine Kd.C_alloc ?_ _) | (with_reducible refine Kd.C_drewN ?_ _) | (with_reducible refine Kd.C_drew ?_))); (case side2 => exact HC0_1.out); (case side3 => repeat (first | exact (Kd.C_below HR0_2.out HB.out) | (with_reducible refine Kd.C_alloc ?_ _) | (with_reducible refine Kd.C_drewN ?_ _) | (with_reducible refine Kd.C_drew ?_))); (case side4 => exact HC0_2.out); (case side5 => repeat (first | exact (Kd.C_below HR0_3.out HB.out) | (with_reducible refine Kd.C_alloc ?_ _) | (with_reducible refine Kd.C_drewN ?_ _) | (with_reducible refine Kd.C_drew ?_))); (case side6 => exact HC0_3.out); rintro e w174 ⟨rfl, hb⟩; refine ⟨_, rfl, ?_⟩; have n0_ := Aside0.mk (Kd.R_below (by (with_reducible repeat (first | apply Kd.R_alloc | apply Kd.R_drewN | apply Kd.R_drew)); exact HO_312001.out) hb); have n1_ := Aside0.mk (blk_below (g := gb300) (o := .cells #[.string a0_0, .slice A0_1 l0_1.length c0_1, .slice A0_2 l0_2.length c0_2, .slice A0_3 l0_3.length c0_3] 26 (0, 0)) (bk_ BK300.out) hb); have n2_ := Aside0.mk (blk_below (g := gb301) (o := .cells #[.int .i64 a1_0, .slice A1_1 l1_1.length c1_1] 29 (0, 0)) (bk_ BK301.out) hb); have n3_ := Aside0.mk (blk_below (g := gb302) (o := .cells #[.int .i64 a2_0, .slice A2_1 l2_1.length c2_1] 29 (0, 0)) (bk_ BK302.out) hb); have n4_ := Aside0.mk (blk_below (g := gb303) (o := .cells #[.int .i64 a3_0, .int .i64 a3_1] 31 (0, 0)) (bk_ BK303.out) hb); have n5_ := Aside0.mk (blk_below (g := gb311) (o := .cells #[.int .i64 t306, .slice Ao51 t307.length co51] 29 (0, 0)) (bk_ BK311.out) hb); have n6_ := Aside0.mk (below_step HB_ hb); clear HO_312001; clear BK300; clear BK301; clear BK302; clear BK303; clear BK311; clear HB; have HO_312001 := n0_; have BK300 := n1_; have BK301 := n2_; have BK302 := n3_; have BK303 := n4_; have BK311 := n5_; have HB := n6_; clear n0_ n1_ n2_ n3_ n4_ n5_ n6_; (try clear hb); (try clear hb2); (try clear hk); (try clear hi); have hcz175_0 : w174.cell? ⟨gb300, 0, none⟩ = some (.string a0_0) := (blk_cell BK300.out 0).trans rfl; have hcz175_1 : w174.cell? ⟨gb300, 1, none⟩ = some (.slice A0_1 l0_1.length c0_1) := (blk_cell BK300.out 1).trans rfl; have hcz175_2 : w174.cell? ⟨gb300, 2, none⟩ = some (.slice A0_2 l0_2.length c0_2) := (blk_cell BK300.out 2).trans rfl; have hcz175_3 : w174.cell? ⟨gb300, 3, none⟩ = some (.slice A0_3 l0_3.length c0_3) := (blk_cell BK300.out 3).trans rfl; have hfz175_0 := blk_frozen BK300.out 0; have hfz175_1 := blk_frozen BK300.out 1; have hfz175_2 := blk_frozen BK300.out 2; have hfz175_3 := blk_frozen BK300.out 3; have hnb176 := NB301_302.out; have hnc176 := NB302_301.out; have hnb177 := NB301_303.out; have hnc177 := NB303_301.out; have hnb178 := NB301_311.out; have hnc178 := NB311_301.out; have hcz179_0 : w174.cell? ⟨gb301, 0, none⟩ = some (.int .i64 a1_0) := (blk_cell BK301.out 0).trans rfl; have hcz179_1 : w174.cell? ⟨gb301, 1, none⟩ = some (.slice A1_1 l1_1.length c1_1) := (blk_cell BK301.out 1).trans rfl; have hfz179_0 := blk_frozen BK301.out 0; have hfz179_1 := blk_frozen BK301.out 1) | ((with_reducible refine gate_callee (f := 13) rfl ?_); refine goesL_ (some 60) rfl rfl Try.func13 (by kernel_rfl) rfl #[.agg #[.string a0_0, .slice A0_1 l0_1.length c0_1, .slice A0_2 l0_2.length c0_2, .slice A0_3 l0_3.length c0_3], .agg #[.int .i64 a1_0, .slice A1_1 l1_1.length c1_1]] rfl MP_ ?_; (with_reducible refine (warrantorref13_Right.calls kj33 a0_0 _ _ l0_1 _ _ l0_2 _ _ l0_3 a1_0 _ _ l1_1 false _ ?side1 ?side2 ?side3 ?side4 ?side5 ?side6 ?side7 ?side8 A67.out).mono ?_); (case side1 => repeat (first | exact (Kd.C_below HR0_1.out HB.out) | (with_reducible refine Kd.C_alloc ?_ _) | (with_reducible refine Kd.C_drewN ?_ _) | (with_reducible refine Kd.C_drew ?_))); (case side2 => exact HC0_1.out); (case side3 => repeat (first | exact (Kd.C_below HR0_2.out HB.out) | (with_reducible refine Kd.C_alloc ?_ _) | (with_reducible refine Kd.C_drewN ?_ _) | (with_reducible refine Kd.C_drew ?_))); (case side4 => exact HC0_2.out); (case side5 => repeat (first | exact (Kd.C_below HR0_3.out HB.out) | (with_reducible refine Kd.C_alloc ?_ _) | (with_reducible refine Kd.C_drewN ?_ _) | (with_reducible refine Kd.C_drew ?_))); (case side6 => exact HC0_3.out); (case side7 => repeat (first | exact (Kd.C_below HR1_1.out HB.out) | (with_reducible refine Kd.C_alloc ?_ _) | (with_reducible refine Kd.C_drewN ?_ _) | (with_reducible refine Kd.C_drew ?_))); (case side8 => exact HC1_1.out); rintro e w180 ⟨rfl, hb⟩; refine ⟨_, rfl, ?_⟩; have n0_ := Aside0.mk (Kd.R_below (by (with_reducible repeat (first | apply Kd.R_alloc | apply Kd.R_drewN | apply Kd.R_drew)); exact HO_312001.out) hb); have n1_ := Aside0.mk (blk_below (g := gb300) (o := .cells #[.string a0_0, .slice A0_1 l0_1.length c0_1, .slice A0_2 l0_2.length c0_2, .slice A0_3 l0_3.length c0_3] 26 (0, 0)) (bk_ BK300.out) hb); have n2_ := Aside0.mk (blk_below (g := gb301) (o := .cells #[.int .i64 a1_0, .slice A1_1 l1_1.length c1_1] 29 (0, 0)) (bk_ BK301.out) hb); have n3_ := Aside0.mk (blk_below (g := gb302) (o := .cells #[.int .i64 a2_0, .slice A2_1 l2_1.length c2_1] 29 (0, 0)) (bk_ BK302.out) hb); have n4_ := Aside0.mk (blk_below (g := gb303) (o := .cells #[.int .i64 a3_0, .int .i64 a3_1] 31 (0, 0)) (bk_ BK303.out) hb); have n5_ := Aside0.mk (blk_below (g := gb311) (o := .cells #[.int .i64 t306, .slice Ao51 t307.length co51] 29 (0, 0)) (bk_ BK311.out) hb); have n6_ := Aside0.mk (below_step HB_ hb); clear HO_312001; clear BK300; clear BK301; clear BK302; clear BK303; clear BK311; clear HB; have HO_312001 := n0_; have BK300 := n1_; have BK301 := n2_; have BK302 := n3_; have BK303 := n4_; have BK311 := n5_; have HB := n6_; clear n0_ n1_ n2_ n3_ n4_ n5_ n6_; (try clear hb); (try clear hb2); (try clear hk); (try clear hi); have hnb181 := NB311_302.out; have hnc181 := NB302_311.out; have hnb182 := NB311_303.out; have hnc182 := NB303_311.out; have hcz183_0 : w180.cell? ⟨gb311, 0, none⟩ = some (.int .i64 t306) := (blk_cell BK311.out 0).trans rfl; have hcz183_1 : w180.cell? ⟨gb311, 1, none⟩ = some (.slice Ao51 t307.length co51) := (blk_cell BK311.out 1).trans rfl; have hfz183_0 := blk_frozen BK311.out 0; have hfz183_1 := blk_frozen BK311.out 1) | (go_at_call 10; (refine (warrantorref13_Same.calls kj33 t306 _ _ t307 0 _ _ ([] : List Int) true _ ?side1 ?side2 ?side3 ?side4 A166.out).mono ?_); (case side1 => repeat (first | exact (Kd.R_reads' HO_312001.out).2.2 | (with_reducible refine Kd.C_alloc ?_ _) | (with_reducible refine Kd.C_drewN ?_ _) | (with_reducible refine Kd.C_drew ?_))); (case side2 => exact (Kd.R_reads' HO_312001.out).2.1); (case side3 => exact Kd.C_nil _ _); (case side4 => exact Nat.le_refl _); rintro e w184 ⟨rfl, hb⟩; have n0_ := Aside0.mk (Kd.R_below (by (with_reducible repeat (first | apply Kd.R_alloc | apply Kd.R_drewN | apply Kd.R_drew)); exact HO_312001.out) hb); have n1_ := Aside0.mk (blk_below (g := gb300) (o := .cells #[.string a0_0, .slice A0_1 l0_1.length c0_1, .slice A0_2 l0_2.length c0_2, .slice A0_3 l0_3.length c0_3] 26 (0, 0)) (bk_ BK300.out) hb); have n2_ := Aside0.mk (blk_below (g := gb301) (o := .cells #[.int .i64 a1_0, .slice A1_1 l1_1.length c1_1] 29 (0, 0)) (bk_ BK301.out) hb); have n3_ := Aside0.mk (blk_below (g := gb302) (o := .cells #[.int .i64 a2_0, .slice A2_1 l2_1.length c2_1] 29 (0, 0)) (bk_ BK302.out) hb); have n4_ := Aside0.mk (blk_below (g := gb303) (o := .cells #[.int .i64 a3_0, .int .i64 a3_1] 31 (0, 0)) (bk_ BK303.out) hb); have n5_ := Aside0.mk (blk_below (g := gb311) (o := .cells #[.int .i64 t306, .slice Ao51 t307.length co51] 29 (0, 0)) (bk_ BK311.out) hb); have n6_ := Aside0.mk (below_step HB_ hb); clear HO_312001; clear BK300; clear BK301; clear BK302; clear BK303; clear BK311; clear HB; have HO_312001 := n0_; have BK300 := n1_; have BK301 := n2_; have BK302 := n3_; have BK303 := n4_; have BK311 := n5_; have HB := n6_; clear n0_ n1_ n2_ n3_ n4_ n5_ n6_; (try clear hb); (try clear hb2); (try clear hk); (try clear hi); have hcz185_0 : w184.cell? ⟨gb300, 0, none⟩ = some (.string a0_0) := (blk_cell BK300.out 0).trans rfl; have hcz185_1 : w184.cell? ⟨gb300, 1, none⟩ = some (.slice A0_1 l0_1.length c0_1) := (blk_cell BK300.out 1).trans rfl; have hcz185_2 : w184.cell? ⟨gb300, 2, none⟩ = some (.slice A0_2 l0_2.length c0_2) := (blk_cell BK300.out 2).trans rfl; have hcz185_3 : w184.cell? ⟨gb300, 3, none⟩ = some (.slice A0_3 l0_3.length c0_3) := (blk_cell BK300.out 3).trans rfl; have hfz185_0 := blk_frozen BK300.out 0; have hfz185_1 := blk_frozen BK300.out 1; have hfz185_2 := blk_frozen BK300.out 2; have hfz185_3 := blk_frozen BK300.out 3; have hcz186_0 : w184.cell? ⟨gb301, 0, none⟩ = some (.int .i64 a1_0) := (blk_cell BK301.out 0).trans rfl; have hcz186_1 : w184.cell? ⟨gb301, 1, none⟩ = some (.slice A1_1 l1_1.length c1_1) := (blk_cell BK301.out 1).trans rfl; have hfz186_0 := blk_frozen BK301.out 0; have hfz186_1 := blk_frozen BK301.out 1) | (go_at_call 12; (with_reducible refine (run_Right.calls a0_0 _ _ l0_1 _ _ l0_2 _ _ l0_3 a1_0 _ _ l1_1 t328 _ ?side1 ?side2 ?side3 ?side4 ?side5 ?side6 ?side7 ?side8 A168.out).mono ?_); (case side1 => repeat (first | exact (Kd.C_below HR0_1.out HB.out) | (with_reducible refine Kd.C_alloc ?_ _) | (with_reducible refine Kd.C_drewN ?_ _) | (with_reducible refine Kd.C_drew ?_))); (case side2 => exact HC0_1.out); (case side3 => repeat (first | exact (Kd.C_below HR0_2.out HB.out) | (with_reducible refine Kd.C_alloc ?_ _) | (with_reducible refine Kd.C_drewN ?_ _) | (with_reducible refine Kd.C_drew ?_))); (case side4 => exact HC0_2.out); (case side5 => repeat (first | exact (Kd.C_below HR0_3.out HB.out) | (with_reducible refine Kd.C_alloc ?_ _) | (with_reducible refine Kd.C_drewN ?_ _) | (with_reducible refine Kd.C_drew ?_))); (case side6 => exact HC0_3.out); (case side7 => repeat (first | exact (Kd.C_below HR1_1.out HB.out) | (with_reducible refine Kd.C_alloc ?_ _) | (with_reducible refine Kd.C_drewN ?_ _) | (with_reducible refine Kd.C_drew ?_))); (case side8 => exact HC1_1.out); rintro e w187 ⟨rfl, hb⟩; have n0_ := Aside0.mk (Kd.R_below (by (with_reducible repeat (first | apply Kd.R_alloc | apply Kd.R_drewN | apply Kd.R_drew)); exact HO_312001.out) hb); have n1_ := Aside0.mk (blk_below (g := gb300) (o := .cells #[.string a0_0, .slice A0_1 l0_1.length c0_1, .slice A0_2 l0_2.length c0_2, .slice A0_3 l0_3.length c0_3] 26 (0, 0)) (bk_ BK300.out) hb); have n2_ := Aside0.mk (blk_below (g := gb301) (o := .cells #[.int .i64 a1_0, .slice A1_1 l1_1.length c1_1] 29 (0, 0)) (bk_ BK301.out) hb); have n3_ := Aside0.mk (blk_below (g := gb302) (o := .cells #[.int .i64 a2_0, .slice A2_1 l2_1.length c2_1] 29 (0, 0)) (bk_ BK302.out) hb); have n4_ := Aside0.mk (blk_below (g := gb303) (o := .cells #[.int .i64 a3_0, .int .i64 a3_1] 31 (0, 0)) (bk_ BK303.out) hb); have n5_ := Aside0.mk (blk_below (g := gb311) (o := .cells #[.int .i64 t306, .slice Ao51 t307.length co51] 29 (0, 0)) (bk_ BK311.out) hb); have n6_ := Aside0.mk (below_step HB_ hb); clear HO_312001; clear BK300; clear BK301; clear BK302; clear BK303; clear BK311; clear HB; have HO_312001 := n0_; have BK300 := n1_; have BK301 := n2_; have BK302 := n3_; have BK303 := n4_; have BK311 := n5_; have HB := n6_; clear n0_ n1_ n2_ n3_ n4_ n5_ n6_; (try clear hb); (try clear hb2); (try clear hk); (try clear hi)))
          go_ret
          exact ⟨by first | rfl | (simp [errW_none, errW_some] <;> rfl) | (simp [*, errW_none, errW_some] <;> rfl), HB_⟩
        subst c68
        have H1 : ((warrantorref13_Step.f kj33 a0_0 l0_1 l0_2 l0_3 a1_0 l1_1 a3_0 a3_1).bind fun bt319 => ((run_Right.f a0_0 l0_1 l0_2 l0_3 a1_0 l1_1).bind fun t325 => (if t325 = true then (if t310 = bt319.2.2 then ((warrantorref13_Same.f kj33 t306 t307 bt319.1 bt319.2.1).bind fun t326 => (some t326)) else (some false)) else (some false)))) = some r := by rw [if_pos rfl] at H; exact H
        clear H
        have H := H1
        clear H1
        replace H := Option.bind_eq_some_iff.mp H
        obtain ⟨⟨t319, t320, t323⟩, A690, H⟩ := H
        replace H : ((run_Right.f a0_0 l0_1 l0_2 l0_3 a1_0 l1_1).bind fun t325 => (if t325 = true then (if t310 = t323 then ((warrantorref13_Same.f kj33 t306 t307 t319 t320).bind fun t326 => (some t326)) else (some false)) else (some false))) = some r := H
        have A69 := Aside0.mk A690
        clear A690
        replace H := Option.bind_eq_some_iff.mp H
        obtain ⟨t325, A700, H⟩ := H
        replace H : (if t325 = true then (if t310 = t323 then ((warrantorref13_Same.f kj33 t306 t307 t319 t320).bind fun t326 => (some t326)) else (some false)) else (some false)) = some r := H
        have A70 := Aside0.mk A700
        clear A700
        by_cases c71 : t325 = true
        rotate_left
        · replace c71 := Bool.eq_false_iff.mpr c71
          subst c71
          have H1 : (some false) = some r := by rw [if_neg (show ¬ (false = true) by decide)] at H; exact H
          clear H
          have H := H1
          clear H1
          obtain rfl := Option.some.inj H
          have hnb136 := NB300_301.out
          have hnc136 := NB301_300.out
          have hnb137 := NB300_302.out
          have hnc137 := NB302_300.out
          have hnb138 := NB300_303.out
          have hnc138 := NB303_300.out
          have hnb139 := NB300_311.out
          have hnc139 := NB311_300.out
          have hcz140_0 : wc.cell? ⟨gb300, 0, none⟩ = some (.string a0_0) := (blk_cell BK300.out 0).trans rfl
          have hcz140_1 : wc.cell? ⟨gb300, 1, none⟩ = some (.slice A0_1 l0_1.length c0_1) := (blk_cell BK300.out 1).trans rfl
          have hcz140_2 : wc.cell? ⟨gb300, 2, none⟩ = some (.slice A0_2 l0_2.length c0_2) := (blk_cell BK300.out 2).trans rfl
          have hcz140_3 : wc.cell? ⟨gb300, 3, none⟩ = some (.slice A0_3 l0_3.length c0_3) := (blk_cell BK300.out 3).trans rfl
          have hfz140_0 := blk_frozen BK300.out 0
          have hfz140_1 := blk_frozen BK300.out 1
          have hfz140_2 := blk_frozen BK300.out 2
          have hfz140_3 := blk_frozen BK300.out 3
          go_wp2_with (first | ((with_reducible refine gate_callee (f := 11) rfl ?_); refine goesL_ (some 43) rfl rfl Try.func11 (by kernel_rfl) rfl #[.agg #[.string a0_0, .slice A0_1 l0_1.length c0_1, .slice A0_2 l0_2.length c0_2, .slice A0_3 l0_3.length c0_3]] rfl MP_ ?_; (with_reducible refine (warrantorref11_Check.calls kj33 a0_0 _ _ l0_1 _ _ l0_2 _ _ l0_3 true _ ?side1 ?side2 ?side3 ?side4 ?side5 ?side6 A65.out).mono ?_); (case side1 => repeat (first | exact (Kd.C_below HR0_1.out HB.out) | (with_reducible refine Kd.C_alloc ?_ _) | (with_reducible refine Kd.C_drewN ?_ _) | (with_reducible refine Kd.C_drew ?_))); (case side2 => exact HC0_1.out); (case side3 => repeat (first | exact (Kd.C_below HR0_2.out HB.out) | (with_reducible refine Kd.C_alloc ?_ _) | (with_reducible refine Kd.C_drewN ?_ _) | (with_reducible refine Kd.C_drew ?_))); (case side4 => exact HC0_2.out); (case side5 => repeat (first | exact (Kd.C_below HR0_3.out HB.out) | (with_reducible refine Kd.C_alloc ?_ _) | (with_reducible refine Kd.C_drewN ?_ _) | (with_reducible refine Kd.C_drew ?_))); (case side6 => exact HC0_3.out); rintro e w141 ⟨rfl, hb⟩; refine ⟨_, rfl, ?_⟩; have n0_ := Aside0.mk (Kd.R_below (by (with_reducible repeat (first | apply Kd.R_alloc | apply Kd.R_drewN | apply Kd.R_drew)); exact HO_312001.out) hb); have n1_ := Aside0.mk (blk_below (g := gb300) (o := .cells #[.string a0_0, .slice A0_1 l0_1.length c0_1, .slice A0_2 l0_2.length c0_2, .slice A0_3 l0_3.length c0_3] 26 (0, 0)) (bk_ BK300.out) hb); have n2_ := Aside0.mk (blk_below (g := gb301) (o := .cells #[.int .i64 a1_0, .slice A1_1 l1_1.length c1_1] 29 (0, 0)) (bk_ BK301.out) hb); have n3_ := Aside0.mk (blk_below (g := gb302) (o := .cells #[.int .i64 a2_0, .slice A2_1 l2_1.length c2_1] 29 (0, 0)) (bk_ BK302.out) hb); have n4_ := Aside0.mk (blk_below (g := gb303) (o := .cells #[.int .i64 a3_0, .int .i64 a3_1] 31 (0, 0)) (bk_ BK303.out) hb); have n5_ := Aside0.mk (blk_below (g := gb311) (o := .cells #[.int .i64 t306, .slice Ao51 t307.length co51] 29 (0, 0)) (bk_ BK311.out) hb); have n6_ := Aside0.mk (below_step HB_ hb); clear HO_312001; clear BK300; clear BK301; clear BK302; clear BK303; clear BK311; clear HB; have HO_312001 := n0_; have BK300 := n1_; have BK301 := n2_; have BK302 := n3_; have BK303 := n4_; have BK311 := n5_; have HB := n6_; clear n0_ n1_ n2_ n3_ n4_ n5_ n6_; (try clear hb); (try clear hb2); (try clear hk); (try clear hi); have hcz142_0 : w141.cell? ⟨gb300, 0, none⟩ = some (.string a0_0) := (blk_cell BK300.out 0).trans rfl; have hcz142_1 : w141.cell? ⟨gb300, 1, none⟩ = some (.slice A0_1 l0_1.length c0_1) := (blk_cell BK300.out 1).trans rfl; have hcz142_2 : w141.cell? ⟨gb300, 2, none⟩ = some (.slice A0_2 l0_2.length c0_2) := (blk_cell BK300.out 2).trans rfl; have hcz142_3 : w141.cell? ⟨gb300, 3, none⟩ = some (.slice A0_3 l0_3.length c0_3) := (blk_cell BK300.out 3).trans rfl; have hfz142_0 := blk_frozen BK300.out 0; have hfz142_1 := blk_frozen BK300.out 1; have hfz142_2 := blk_frozen BK300.out 2; have hfz142_3 := blk_frozen BK300.out 3; have hnb143 := NB301_302.out; have hnc143 := NB302_301.out; have hnb144 := NB301_303.out; have hnc144 := NB303_301.out; have hnb145 := NB301_311.out; have hnc145 := NB311_301.out; have hcz146_0 : w141.cell? ⟨gb301, 0, none⟩ = some (.int .i64 a1_0) := (blk_cell BK301.out 0).trans rfl; have hcz146_1 : w141.cell? ⟨gb301, 1, none⟩ = some (.slice A1_1 l1_1.length c1_1) := (blk_cell BK301.out 1).trans rfl; have hfz146_0 := blk_frozen BK301.out 0; have hfz146_1 := blk_frozen BK301.out 1) | ((with_reducible refine gate_callee (f := 13) rfl ?_); refine goesL_ (some 60) rfl rfl Try.func13 (by kernel_rfl) rfl #[.agg #[.string a0_0, .slice A0_1 l0_1.length c0_1, .slice A0_2 l0_2.length c0_2, .slice A0_3 l0_3.length c0_3], .agg #[.int .i64 a1_0, .slice A1_1 l1_1.length c1_1]] rfl MP_ ?_; (with_reducible refine (warrantorref13_Right.calls kj33 a0_0 _ _ l0_1 _ _ l0_2 _ _ l0_3 a1_0 _ _ l1_1 true _ ?side1 ?side2 ?side3 ?side4 ?side5 ?side6 ?side7 ?side8 A67.out).mono ?_); (case side1 => repeat (first | exact (Kd.C_below HR0_1.out HB.out) | (with_reducible refine Kd.C_alloc ?_ _) | (with_reducible refine Kd.C_drewN ?_ _) | (with_reducible refine Kd.C_drew ?_))); (case side2 => exact HC0_1.out); (case side3 => repeat (first | exact (Kd.C_below HR0_2.out HB.out) | (with_reducible refine Kd.C_alloc ?_ _) | (with_reducible refine Kd.C_drewN ?_ _) | (with_reducible refine Kd.C_drew ?_))); (case side4 => exact HC0_2.out); (case side5 => repeat (first | exact (Kd.C_below HR0_3.out HB.out) | (with_reducible refine Kd.C_alloc ?_ _) | (with_reducible refine Kd.C_drewN ?_ _) | (with_reducible refine Kd.C_drew ?_))); (case side6 => exact HC0_3.out); (case side7 => repeat (first | exact (Kd.C_below HR1_1.out HB.out) | (with_reducible refine Kd.C_alloc ?_ _) | (with_reducible refine Kd.C_drewN ?_ _) | (with_reducible refine Kd.C_drew ?_))); (case side8 => exact HC1_1.out); rintro e w147 ⟨rfl, hb⟩; refine ⟨_, rfl, ?_⟩; have n0_ := Aside0.mk (Kd.R_below (by (with_reducible repeat (first | apply Kd.R_alloc | apply Kd.R_drewN | apply Kd.R_drew)); exact HO_312001.out) hb); have n1_ := Aside0.mk (blk_below (g := gb300) (o := .cells #[.string a0_0, .slice A0_1 l0_1.length c0_1, .slice A0_2 l0_2.length c0_2, .slice A0_3 l0_3.length c0_3] 26 (0, 0)) (bk_ BK300.out) hb); have n2_ := Aside0.mk (blk_below (g := gb301) (o := .cells #[.int .i64 a1_0, .slice A1_1 l1_1.length c1_1] 29 (0, 0)) (bk_ BK301.out) hb); have n3_ := Aside0.mk (blk_below (g := gb302) (o := .cells #[.int .i64 a2_0, .slice A2_1 l2_1.length c2_1] 29 (0, 0)) (bk_ BK302.out) hb); have n4_ := Aside0.mk (blk_below (g := gb303) (o := .cells #[.int .i64 a3_0, .int .i64 a3_1] 31 (0, 0)) (bk_ BK303.out) hb); have n5_ := Aside0.mk (blk_below (g := gb311) (o := .cells #[.int .i64 t306, .slice Ao51 t307.length co51] 29 (0, 0)) (bk_ BK311.out) hb); have n6_ := Aside0.mk (below_step HB_ hb); clear HO_312001; clear BK300; clear BK301; clear BK302; clear BK303; clear BK311; clear HB; have HO_312001 := n0_; have BK300 := n1_; have BK301 := n2_; have BK302 := n3_; have BK303 := n4_; have BK311 := n5_; have HB := n6_; clear n0_ n1_ n2_ n3_ n4_ n5_ n6_; (try clear hb); (try clear hb2); (try clear hk); (try clear hi); have hcz148_0 : w147.cell? ⟨gb300, 0, none⟩ = some (.string a0_0) := (blk_cell BK300.out 0).trans rfl; have hcz148_1 : w147.cell? ⟨gb300, 1, none⟩ = some (.slice A0_1 l0_1.length c0_1) := (blk_cell BK300.out 1).trans rfl; have hcz148_2 : w147.cell? ⟨gb300, 2, none⟩ = some (.slice A0_2 l0_2.length c0_2) := (blk_cell BK300.out 2).trans rfl; have hcz148_3 : w147.cell? ⟨gb300, 3, none⟩ = some (.slice A0_3 l0_3.length c0_3) := (blk_cell BK300.out 3).trans rfl; have hfz148_0 := blk_frozen BK300.out 0; have hfz148_1 := blk_frozen BK300.out 1; have hfz148_2 := blk_frozen BK300.out 2; have hfz148_3 := blk_frozen BK300.out 3; have hcz149_0 : w147.cell? ⟨gb301, 0, none⟩ = some (.int .i64 a1_0) := (blk_cell BK301.out 0).trans rfl; have hcz149_1 : w147.cell? ⟨gb301, 1, none⟩ = some (.slice A1_1 l1_1.length c1_1) := (blk_cell BK301.out 1).trans rfl; have hfz149_0 := blk_frozen BK301.out 0; have hfz149_1 := blk_frozen BK301.out 1; have hnb150 := NB303_302.out; have hnc150 := NB302_303.out; have hnb151 := NB303_311.out; have hnc151 := NB311_303.out; have hcz152_0 : w147.cell? ⟨gb303, 0, none⟩ = some (.int .i64 a3_0) := (blk_cell BK303.out 0).trans rfl; have hcz152_1 : w147.cell? ⟨gb303, 1, none⟩ = some (.int .i64 a3_1) := (blk_cell BK303.out 1).trans rfl; have hfz152_0 := blk_frozen BK303.out 0; have hfz152_1 := blk_frozen BK303.out 1) | ((with_reducible refine gate_callee (f := 14) rfl ?_); refine goesL_ (some 79) rfl rfl Try.func14 (by kernel_rfl) rfl #[.agg #[.string a0_0, .slice A0_1 l0_1.length c0_1, .slice A0_2 l0_2.length c0_2, .slice A0_3 l0_3.length c0_3], .agg #[.int .i64 a1_0, .slice A1_1 l1_1.length c1_1], .agg #[.int .i64 a3_0, .int .i64 a3_1]] rfl MP_ ?_; (with_reducible refine (warrantorref13_Step.calls kj33 a0_0 _ _ l0_1 _ _ l0_2 _ _ l0_3 a1_0 _ _ l1_1 a3_0 a3_1 t319 t320 t323 _ ?side1 ?side2 ?side3 ?side4 ?side5 ?side6 ?side7 ?side8 A69.out).mono ?_); (case side1 => repeat (first | exact (Kd.C_below HR0_1.out HB.out) | (with_reducible refine Kd.C_alloc ?_ _) | (with_reducible refine Kd.C_drewN ?_ _) | (with_reducible refine Kd.C_drew ?_))); (case side2 => exact HC0_1.out); (case side3 => repeat (first | exact (Kd.C_below HR0_2.out HB.out) | (with_reducible refine Kd.C_alloc ?_ _) | (with_reducible refine Kd.C_drewN ?_ _) | (with_reducible refine Kd.C_drew ?_))); (case side4 => exact HC0_2.out); (case side5 => repeat (first | exact (Kd.C_below HR0_3.out HB.out) | (with_reducible refine Kd.C_alloc ?_ _) | (with_reducible refine Kd.C_drewN ?_ _) | (with_reducible refine Kd.C_drew ?_))); (case side6 => exact HC0_3.out); (case side7 => repeat (first | exact (Kd.C_below HR1_1.out HB.out) | (with_reducible refine Kd.C_alloc ?_ _) | (with_reducible refine Kd.C_drewN ?_ _) | (with_reducible refine Kd.C_drew ?_))); (case side8 => exact HC1_1.out); rintro e w153 ⟨v321, rfl, ho0, hb⟩; refine ⟨_, rfl, ?_⟩; have n0_ := Aside0.mk (Kd.R_elder' (by (with_reducible repeat (first | apply Kd.R_alloc | apply Kd.R_drewN | apply Kd.R_drew)); exact HO_312001.out) (Kd.R_base ho0) hb); have n1_ := Aside0.mk (Kd.R_lower (Kd.R_new' ho0 (Kd.R_lt (by (with_reducible repeat (first | apply Kd.R_alloc | apply Kd.R_drewN | apply Kd.R_drew)); exact HO_312001.out))) (below_size HB_)); have n2_ := Aside0.mk (blk_below (g := gb300) (o := .cells #[.string a0_0, .slice A0_1 l0_1.length c0_1, .slice A0_2 l0_2.length c0_2, .slice A0_3 l0_3.length c0_3] 26 (0, 0)) (bk_ BK300.out) hb); have n3_ := Aside0.mk (blk_below (g := gb301) (o := .cells #[.int .i64 a1_0, .slice A1_1 l1_1.length c1_1] 29 (0, 0)) (bk_ BK301.out) hb); have n4_ := Aside0.mk (blk_below (g := gb302) (o := .cells #[.int .i64 a2_0, .slice A2_1 l2_1.length c2_1] 29 (0, 0)) (bk_ BK302.out) hb); have n5_ := Aside0.mk (blk_below (g := gb303) (o := .cells #[.int .i64 a3_0, .int .i64 a3_1] 31 (0, 0)) (bk_ BK303.out) hb); have n6_ := Aside0.mk (blk_below (g := gb311) (o := .cells #[.int .i64 t306, .slice Ao51 t307.length co51] 29 (0, 0)) (bk_ BK311.out) hb); have n7_ := Aside0.mk (below_step HB_ hb); clear HO_312001; clear BK300; clear BK301; clear BK302; clear BK303; clear BK311; clear HB; have HO_312001 := n0_; have HO322 := n1_; have BK300 := n2_; have BK301 := n3_; have BK302 := n4_; have BK303 := n5_; have BK311 := n6_; have HB := n7_; clear n0_ n1_ n2_ n3_ n4_ n5_ n6_ n7_; (try clear hb); (try clear hb2); (try clear hk); (try clear hi); (try clear ho0)) | ((with_reducible refine gate_dst (N := 11) rfl ?_); (try (refine gate_guard (by rfl) ?_; dsimp only)); refine box_event ?hg (N := 11) ?hd (cs := #[.int .i64 0, .slice none 0 0]) (t := 29) ?hr ?_; (case hd => rfl); (case hg => rfl); (case hr => first | (go_simp; done) | (go_simp; rfl)); intro gb324 hg w154 hbox hb; have n0_ := Aside0.mk (Kd.R_below (by (with_reducible repeat (first | apply Kd.R_alloc | apply Kd.R_drewN | apply Kd.R_drew)); exact HO_312001.out) hb); have n1_ := Aside0.mk (Kd.R_below (by (with_reducible repeat (first | apply Kd.R_alloc | apply Kd.R_drewN | apply Kd.R_drew)); exact HO322.out) hb); have n2_ := Aside0.mk (blk_below (g := gb300) (o := .cells #[.string a0_0, .slice A0_1 l0_1.length c0_1, .slice A0_2 l0_2.length c0_2, .slice A0_3 l0_3.length c0_3] 26 (0, 0)) (bk_ BK300.out) hb); have n3_ := Aside0.mk (blk_below (g := gb301) (o := .cells #[.int .i64 a1_0, .slice A1_1 l1_1.length c1_1] 29 (0, 0)) (bk_ BK301.out) hb); have n4_ := Aside0.mk (blk_below (g := gb302) (o := .cells #[.int .i64 a2_0, .slice A2_1 l2_1.length c2_1] 29 (0, 0)) (bk_ BK302.out) hb); have n5_ := Aside0.mk (blk_below (g := gb303) (o := .cells #[.int .i64 a3_0, .int .i64 a3_1] 31 (0, 0)) (bk_ BK303.out) hb); have n6_ := Aside0.mk (blk_below (g := gb311) (o := .cells #[.int .i64 t306, .slice Ao51 t307.length co51] 29 (0, 0)) (bk_ BK311.out) hb); have n7_ := Aside0.mk (below_step HB_ hb); have n8_ := Aside0.mk (hbox); have n9_ := Aside0.mk ((by rw [hg]; exact (below_size HB_) : w.heap.size ≤ gb324)); have n10_ := Aside0.mk ((by rw [hg]; exact (below_size HB_) : w.heap.size ≤ gb324)); have n11_ := Aside0.mk ((by rw [hg]; exact Nat.ne_of_lt (blk_lt (g := gb300) (o := .cells #[.string a0_0, .slice A0_1 l0_1.length c0_1, .slice A0_2 l0_2.length c0_2, .slice A0_3 l0_3.length c0_3] 26 (0, 0)) (bk_ BK300.out)) : gb300 ≠ gb324)); have n12_ := Aside0.mk ((by rw [hg]; exact Nat.ne_of_gt (blk_lt (g := gb300) (o := .cells #[.string a0_0, .slice A0_1 l0_1.length c0_1, .slice A0_2 l0_2.length c0_2, .slice A0_3 l0_3.length c0_3] 26 (0, 0)) (bk_ BK300.out)) : gb324 ≠ gb300)); have n13_ := Aside0.mk ((by rw [hg]; exact Nat.ne_of_lt (blk_lt (g := gb301) (o := .cells #[.int .i64 a1_0, .slice A1_1 l1_1.length c1_1] 29 (0, 0)) (bk_ BK301.out)) : gb301 ≠ gb324)); have n14_ := Aside0.mk ((by rw [hg]; exact Nat.ne_of_gt (blk_lt (g := gb301) (o := .cells #[.int .i64 a1_0, .slice A1_1 l1_1.length c1_1] 29 (0, 0)) (bk_ BK301.out)) : gb324 ≠ gb301)); have n15_ := Aside0.mk ((by rw [hg]; exact Nat.ne_of_lt (blk_lt (g := gb302) (o := .cells #[.int .i64 a2_0, .slice A2_1 l2_1.length c2_1] 29 (0, 0)) (bk_ BK302.out)) : gb302 ≠ gb324)); have n16_ := Aside0.mk ((by rw [hg]; exact Nat.ne_of_gt (blk_lt (g := gb302) (o := .cells #[.int .i64 a2_0, .slice A2_1 l2_1.length c2_1] 29 (0, 0)) (bk_ BK302.out)) : gb324 ≠ gb302)); have n17_ := Aside0.mk ((by rw [hg]; exact Nat.ne_of_lt (blk_lt (g := gb303) (o := .cells #[.int .i64 a3_0, .int .i64 a3_1] 31 (0, 0)) (bk_ BK303.out)) : gb303 ≠ gb324)); have n18_ := Aside0.mk ((by rw [hg]; exact Nat.ne_of_gt (blk_lt (g := gb303) (o := .cells #[.int .i64 a3_0, .int .i64 a3_1] 31 (0, 0)) (bk_ BK303.out)) : gb324 ≠ gb303)); have n19_ := Aside0.mk ((by rw [hg]; exact Nat.ne_of_lt (blk_lt (g := gb311) (o := .cells #[.int .i64 t306, .slice Ao51 t307.length co51] 29 (0, 0)) (bk_ BK311.out)) : gb311 ≠ gb324)); have n20_ := Aside0.mk ((by rw [hg]; exact Nat.ne_of_gt (blk_lt (g := gb311) (o := .cells #[.int .i64 t306, .slice Ao51 t307.length co51] 29 (0, 0)) (bk_ BK311.out)) : gb324 ≠ gb311)); clear HO_312001; clear HO322; clear BK300; clear BK301; clear BK302; clear BK303; clear BK311; clear HB; have HO_312001 := n0_; have HO322 := n1_; have BK300 := n2_; have BK301 := n3_; have BK302 := n4_; have BK303 := n5_; have BK311 := n6_; have HB := n7_; have BK324 := n8_; have GW324 := n9_; have GE324 := n10_; have NB300_324 := n11_; have NB324_300 := n12_; have NB301_324 := n13_; have NB324_301 := n14_; have NB302_324 := n15_; have NB324_302 := n16_; have NB303_324 := n17_; have NB324_303 := n18_; have NB311_324 := n19_; have NB324_311 := n20_; clear n0_ n1_ n2_ n3_ n4_ n5_ n6_ n7_ n8_ n9_ n10_ n11_ n12_ n13_ n14_ n15_ n16_ n17_ n18_ n19_ n20_; clear hb hbox hg; have hnb155 := NB324_300.out; have hnc155 := NB300_324.out; have hnb156 := NB324_301.out; have hnc156 := NB301_324.out; have hnb157 := NB324_302.out; have hnc157 := NB302_324.out; have hnb158 := NB324_303.out; have hnc158 := NB303_324.out; have hnb159 := NB324_311.out; have hnc159 := NB311_324.out; have hcz160_0 : w154.cell? ⟨gb324, 0, none⟩ = some (.int .i64 0) := (blk_cell BK324.out 0).trans rfl; have hcz160_1 : w154.cell? ⟨gb324, 1, none⟩ = some (.slice none 0 0) := (blk_cell BK324.out 1).trans rfl; have hfz160_0 := blk_frozen BK324.out 0; have hfz160_1 := blk_frozen BK324.out 1; obtain ⟨Ao161, co161, eo161⟩ := Kd.R_slice HO322.out; subst eo161; have hcz162_0 : w154.cell? ⟨gb300, 0, none⟩ = some (.string a0_0) := (blk_cell BK300.out 0).trans rfl; have hcz162_1 : w154.cell? ⟨gb300, 1, none⟩ = some (.slice A0_1 l0_1.length c0_1) := (blk_cell BK300.out 1).trans rfl; have hcz162_2 : w154.cell? ⟨gb300, 2, none⟩ = some (.slice A0_2 l0_2.length c0_2) := (blk_cell BK300.out 2).trans rfl; have hcz162_3 : w154.cell? ⟨gb300, 3, none⟩ = some (.slice A0_3 l0_3.length c0_3) := (blk_cell BK300.out 3).trans rfl; have hfz162_0 := blk_frozen BK300.out 0; have hfz162_1 := blk_frozen BK300.out 1; have hfz162_2 := blk_frozen BK300.out 2; have hfz162_3 := blk_frozen BK300.out 3; have hcz163_0 : w154.cell? ⟨gb301, 0, none⟩ = some (.int .i64 a1_0) := (blk_cell BK301.out 0).trans rfl; have hcz163_1 : w154.cell? ⟨gb301, 1, none⟩ = some (.slice A1_1 l1_1.length c1_1) := (blk_cell BK301.out 1).trans rfl; have hfz163_0 := blk_frozen BK301.out 0; have hfz163_1 := blk_frozen BK301.out 1) | ((with_reducible refine gate_callee (f := 12) rfl ?_); refine goesL_ (some 84) rfl rfl Try.func12 (by kernel_rfl) rfl #[.agg #[.string a0_0, .slice A0_1 l0_1.length c0_1, .slice A0_2 l0_2.length c0_2, .slice A0_3 l0_3.length c0_3], .agg #[.int .i64 a1_0, .slice A1_1 l1_1.length c1_1]] rfl MP_ ?_; (with_reducible refine (run_Right.calls a0_0 _ _ l0_1 _ _ l0_2 _ _ l0_3 a1_0 _ _ l1_1 false _ ?side1 ?side2 ?side3 ?side4 ?side5 ?side6 ?side7 ?side8 A70.out).mono ?_); (case side1 => exact Kd.C_below HR0_1.out HB_); (case side2 => exact HC0_1.out); (case side3 => exact Kd.C_below HR0_2.out HB_); (case side4 => exact HC0_2.out); (case side5 => exact Kd.C_below HR0_3.out HB_); (case side6 => exact HC0_3.out); (case side7 => exact Kd.C_below HR1_1.out HB_); (case side8 => exact HC1_1.out); rintro e w164 ⟨rfl, hb⟩; refine ⟨_, rfl, ?_⟩; have n0_ := Aside0.mk (Kd.R_below (by (with_reducible repeat (first | apply Kd.R_alloc | apply Kd.R_drewN | apply Kd.R_drew)); exact (Kd.R_mono (Kd.R_far (p := ⟨gb324, 1, none⟩) (Kd.R_far (p := ⟨gb324, 0, none⟩) (Kd.R_types HO_312001.out BK324.out (by decide)) (fun _ hk => hk.2) (.int .i64 t319)) (fun _ hk => hk.2) (.slice Ao161 t320.length co161)) (fun _ h_ => h_.1))) hb); have n1_ := Aside0.mk (Kd.R_below (by (with_reducible repeat (first | apply Kd.R_alloc | apply Kd.R_drewN | apply Kd.R_drew)); exact (Kd.R_mono (Kd.R_far (p := ⟨gb324, 1, none⟩) (Kd.R_far (p := ⟨gb324, 0, none⟩) (Kd.R_types HO322.out BK324.out (by decide)) (fun _ hk => hk.2) (.int .i64 t319)) (fun _ hk => hk.2) (.slice Ao161 t320.length co161)) (fun _ h_ => h_.1))) hb); have n2_ := Aside0.mk (blk_below (g := gb300) (o := .cells #[.string a0_0, .slice A0_1 l0_1.length c0_1, .slice A0_2 l0_2.length c0_2, .slice A0_3 l0_3.length c0_3] 26 (0, 0)) (bk2_ BK300.out) hb); have n3_ := Aside0.mk (blk_below (g := gb301) (o := .cells #[.int .i64 a1_0, .slice A1_1 l1_1.length c1_1] 29 (0, 0)) (bk2_ BK301.out) hb); have n4_ := Aside0.mk (blk_below (g := gb302) (o := .cells #[.int .i64 a2_0, .slice A2_1 l2_1.length c2_1] 29 (0, 0)) (bk2_ BK302.out) hb); have n5_ := Aside0.mk (blk_below (g := gb303) (o := .cells #[.int .i64 a3_0, .int .i64 a3_1] 31 (0, 0)) (bk2_ BK303.out) hb); have n6_ := Aside0.mk (blk_below (g := gb311) (o := .cells #[.int .i64 t306, .slice Ao51 t307.length co51] 29 (0, 0)) (bk2_ BK311.out) hb); have n7_ := Aside0.mk (blk_below (g := gb324) (o := .cells #[.int .i64 t319, .slice Ao161 t320.length co161] 29 (0, 0)) (bk2_ BK324.out) hb); have n8_ := Aside0.mk (below_step HB_ hb); clear HO_312001; clear HO322; clear BK300; clear BK301; clear BK302; clear BK303; clear BK311; clear BK324; clear HB; have HO_312001 := n0_; have HO322 := n1_; have BK300 := n2_; have BK301 := n3_; have BK302 := n4_; have BK303 := n5_; have BK311 := n6_; have BK324 := n7_; have HB := n8_; clear n0_ n1_ n2_ n3_ n4_ n5_ n6_ n7_ n8_; (try clear hb); (try clear hb2); (try clear hk); (try clear hi)))
          go_ret
          exact ⟨by first | rfl | (simp [errW_none, errW_some] <;> rfl) | (simp [*, errW_none, errW_some] <;> rfl), HB_⟩
        subst c71
        have H1 : (if t310 = t323 then ((warrantorref13_Same.f kj33 t306 t307 t319 t320).bind fun t326 => (some t326)) else (some false)) = some r := by rw [if_pos rfl] at H; exact H
        clear H
        have H := H1
        clear H1
        by_cases c72 : t310 = t323
        rotate_left
        · rw [if_neg c72] at H
          have c72b0 : (t310 == t323) = false := beq_eq_false_iff_ne.mpr c72
          have c72b1 : (t310 != t323) = true := bne_iff_ne.mpr c72
          obtain rfl := Option.some.inj H
          have hnb107 := NB300_301.out
          have hnc107 := NB301_300.out
          have hnb108 := NB300_302.out
          have hnc108 := NB302_300.out
          have hnb109 := NB300_303.out
          have hnc109 := NB303_300.out
          have hnb110 := NB300_311.out
          have hnc110 := NB311_300.out
          have hcz111_0 : wc.cell? ⟨gb300, 0, none⟩ = some (.string a0_0) := (blk_cell BK300.out 0).trans rfl
          have hcz111_1 : wc.cell? ⟨gb300, 1, none⟩ = some (.slice A0_1 l0_1.length c0_1) := (blk_cell BK300.out 1).trans rfl
          have hcz111_2 : wc.cell? ⟨gb300, 2, none⟩ = some (.slice A0_2 l0_2.length c0_2) := (blk_cell BK300.out 2).trans rfl
          have hcz111_3 : wc.cell? ⟨gb300, 3, none⟩ = some (.slice A0_3 l0_3.length c0_3) := (blk_cell BK300.out 3).trans rfl
          have hfz111_0 := blk_frozen BK300.out 0
          have hfz111_1 := blk_frozen BK300.out 1
          have hfz111_2 := blk_frozen BK300.out 2
          have hfz111_3 := blk_frozen BK300.out 3
          go_wp2_with (first | ((with_reducible refine gate_callee (f := 11) rfl ?_); refine goesL_ (some 43) rfl rfl Try.func11 (by kernel_rfl) rfl #[.agg #[.string a0_0, .slice A0_1 l0_1.length c0_1, .slice A0_2 l0_2.length c0_2, .slice A0_3 l0_3.length c0_3]] rfl MP_ ?_; (with_reducible refine (warrantorref11_Check.calls kj33 a0_0 _ _ l0_1 _ _ l0_2 _ _ l0_3 true _ ?side1 ?side2 ?side3 ?side4 ?side5 ?side6 A65.out).mono ?_); (case side1 => repeat (first | exact (Kd.C_below HR0_1.out HB.out) | (with_reducible refine Kd.C_alloc ?_ _) | (with_reducible refine Kd.C_drewN ?_ _) | (with_reducible refine Kd.C_drew ?_))); (case side2 => exact HC0_1.out); (case side3 => repeat (first | exact (Kd.C_below HR0_2.out HB.out) | (with_reducible refine Kd.C_alloc ?_ _) | (with_reducible refine Kd.C_drewN ?_ _) | (with_reducible refine Kd.C_drew ?_))); (case side4 => exact HC0_2.out); (case side5 => repeat (first | exact (Kd.C_below HR0_3.out HB.out) | (with_reducible refine Kd.C_alloc ?_ _) | (with_reducible refine Kd.C_drewN ?_ _) | (with_reducible refine Kd.C_drew ?_))); (case side6 => exact HC0_3.out); rintro e w112 ⟨rfl, hb⟩; refine ⟨_, rfl, ?_⟩; have n0_ := Aside0.mk (Kd.R_below (by (with_reducible repeat (first | apply Kd.R_alloc | apply Kd.R_drewN | apply Kd.R_drew)); exact HO_312001.out) hb); have n1_ := Aside0.mk (blk_below (g := gb300) (o := .cells #[.string a0_0, .slice A0_1 l0_1.length c0_1, .slice A0_2 l0_2.length c0_2, .slice A0_3 l0_3.length c0_3] 26 (0, 0)) (bk_ BK300.out) hb); have n2_ := Aside0.mk (blk_below (g := gb301) (o := .cells #[.int .i64 a1_0, .slice A1_1 l1_1.length c1_1] 29 (0, 0)) (bk_ BK301.out) hb); have n3_ := Aside0.mk (blk_below (g := gb302) (o := .cells #[.int .i64 a2_0, .slice A2_1 l2_1.length c2_1] 29 (0, 0)) (bk_ BK302.out) hb); have n4_ := Aside0.mk (blk_below (g := gb303) (o := .cells #[.int .i64 a3_0, .int .i64 a3_1] 31 (0, 0)) (bk_ BK303.out) hb); have n5_ := Aside0.mk (blk_below (g := gb311) (o := .cells #[.int .i64 t306, .slice Ao51 t307.length co51] 29 (0, 0)) (bk_ BK311.out) hb); have n6_ := Aside0.mk (below_step HB_ hb); clear HO_312001; clear BK300; clear BK301; clear BK302; clear BK303; clear BK311; clear HB; have HO_312001 := n0_; have BK300 := n1_; have BK301 := n2_; have BK302 := n3_; have BK303 := n4_; have BK311 := n5_; have HB := n6_; clear n0_ n1_ n2_ n3_ n4_ n5_ n6_; (try clear hb); (try clear hb2); (try clear hk); (try clear hi); have hcz113_0 : w112.cell? ⟨gb300, 0, none⟩ = some (.string a0_0) := (blk_cell BK300.out 0).trans rfl; have hcz113_1 : w112.cell? ⟨gb300, 1, none⟩ = some (.slice A0_1 l0_1.length c0_1) := (blk_cell BK300.out 1).trans rfl; have hcz113_2 : w112.cell? ⟨gb300, 2, none⟩ = some (.slice A0_2 l0_2.length c0_2) := (blk_cell BK300.out 2).trans rfl; have hcz113_3 : w112.cell? ⟨gb300, 3, none⟩ = some (.slice A0_3 l0_3.length c0_3) := (blk_cell BK300.out 3).trans rfl; have hfz113_0 := blk_frozen BK300.out 0; have hfz113_1 := blk_frozen BK300.out 1; have hfz113_2 := blk_frozen BK300.out 2; have hfz113_3 := blk_frozen BK300.out 3; have hnb114 := NB301_302.out; have hnc114 := NB302_301.out; have hnb115 := NB301_303.out; have hnc115 := NB303_301.out; have hnb116 := NB301_311.out; have hnc116 := NB311_301.out; have hcz117_0 : w112.cell? ⟨gb301, 0, none⟩ = some (.int .i64 a1_0) := (blk_cell BK301.out 0).trans rfl; have hcz117_1 : w112.cell? ⟨gb301, 1, none⟩ = some (.slice A1_1 l1_1.length c1_1) := (blk_cell BK301.out 1).trans rfl; have hfz117_0 := blk_frozen BK301.out 0; have hfz117_1 := blk_frozen BK301.out 1) | ((with_reducible refine gate_callee (f := 13) rfl ?_); refine goesL_ (some 60) rfl rfl Try.func13 (by kernel_rfl) rfl #[.agg #[.string a0_0, .slice A0_1 l0_1.length c0_1, .slice A0_2 l0_2.length c0_2, .slice A0_3 l0_3.length c0_3], .agg #[.int .i64 a1_0, .slice A1_1 l1_1.length c1_1]] rfl MP_ ?_; (with_reducible refine (warrantorref13_Right.calls kj33 a0_0 _ _ l0_1 _ _ l0_2 _ _ l0_3 a1_0 _ _ l1_1 true _ ?side1 ?side2 ?side3 ?side4 ?side5 ?side6 ?side7 ?side8 A67.out).mono ?_); (case side1 => repeat (first | exact (Kd.C_below HR0_1.out HB.out) | (with_reducible refine Kd.C_alloc ?_ _) | (with_reducible refine Kd.C_drewN ?_ _) | (with_reducible refine Kd.C_drew ?_))); (case side2 => exact HC0_1.out); (case side3 => repeat (first | exact (Kd.C_below HR0_2.out HB.out) | (with_reducible refine Kd.C_alloc ?_ _) | (with_reducible refine Kd.C_drewN ?_ _) | (with_reducible refine Kd.C_drew ?_))); (case side4 => exact HC0_2.out); (case side5 => repeat (first | exact (Kd.C_below HR0_3.out HB.out) | (with_reducible refine Kd.C_alloc ?_ _) | (with_reducible refine Kd.C_drewN ?_ _) | (with_reducible refine Kd.C_drew ?_))); (case side6 => exact HC0_3.out); (case side7 => repeat (first | exact (Kd.C_below HR1_1.out HB.out) | (with_reducible refine Kd.C_alloc ?_ _) | (with_reducible refine Kd.C_drewN ?_ _) | (with_reducible refine Kd.C_drew ?_))); (case side8 => exact HC1_1.out); rintro e w118 ⟨rfl, hb⟩; refine ⟨_, rfl, ?_⟩; have n0_ := Aside0.mk (Kd.R_below (by (with_reducible repeat (first | apply Kd.R_alloc | apply Kd.R_drewN | apply Kd.R_drew)); exact HO_312001.out) hb); have n1_ := Aside0.mk (blk_below (g := gb300) (o := .cells #[.string a0_0, .slice A0_1 l0_1.length c0_1, .slice A0_2 l0_2.length c0_2, .slice A0_3 l0_3.length c0_3] 26 (0, 0)) (bk_ BK300.out) hb); have n2_ := Aside0.mk (blk_below (g := gb301) (o := .cells #[.int .i64 a1_0, .slice A1_1 l1_1.length c1_1] 29 (0, 0)) (bk_ BK301.out) hb); have n3_ := Aside0.mk (blk_below (g := gb302) (o := .cells #[.int .i64 a2_0, .slice A2_1 l2_1.length c2_1] 29 (0, 0)) (bk_ BK302.out) hb); have n4_ := Aside0.mk (blk_below (g := gb303) (o := .cells #[.int .i64 a3_0, .int .i64 a3_1] 31 (0, 0)) (bk_ BK303.out) hb); have n5_ := Aside0.mk (blk_below (g := gb311) (o := .cells #[.int .i64 t306, .slice Ao51 t307.length co51] 29 (0, 0)) (bk_ BK311.out) hb); have n6_ := Aside0.mk (below_step HB_ hb); clear HO_312001; clear BK300; clear BK301; clear BK302; clear BK303; clear BK311; clear HB; have HO_312001 := n0_; have BK300 := n1_; have BK301 := n2_; have BK302 := n3_; have BK303 := n4_; have BK311 := n5_; have HB := n6_; clear n0_ n1_ n2_ n3_ n4_ n5_ n6_; (try clear hb); (try clear hb2); (try clear hk); (try clear hi); have hcz119_0 : w118.cell? ⟨gb300, 0, none⟩ = some (.string a0_0) := (blk_cell BK300.out 0).trans rfl; have hcz119_1 : w118.cell? ⟨gb300, 1, none⟩ = some (.slice A0_1 l0_1.length c0_1) := (blk_cell BK300.out 1).trans rfl; have hcz119_2 : w118.cell? ⟨gb300, 2, none⟩ = some (.slice A0_2 l0_2.length c0_2) := (blk_cell BK300.out 2).trans rfl; have hcz119_3 : w118.cell? ⟨gb300, 3, none⟩ = some (.slice A0_3 l0_3.length c0_3) := (blk_cell BK300.out 3).trans rfl; have hfz119_0 := blk_frozen BK300.out 0; have hfz119_1 := blk_frozen BK300.out 1; have hfz119_2 := blk_frozen BK300.out 2; have hfz119_3 := blk_frozen BK300.out 3; have hcz120_0 : w118.cell? ⟨gb301, 0, none⟩ = some (.int .i64 a1_0) := (blk_cell BK301.out 0).trans rfl; have hcz120_1 : w118.cell? ⟨gb301, 1, none⟩ = some (.slice A1_1 l1_1.length c1_1) := (blk_cell BK301.out 1).trans rfl; have hfz120_0 := blk_frozen BK301.out 0; have hfz120_1 := blk_frozen BK301.out 1; have hnb121 := NB303_302.out; have hnc121 := NB302_303.out; have hnb122 := NB303_311.out; have hnc122 := NB311_303.out; have hcz123_0 : w118.cell? ⟨gb303, 0, none⟩ = some (.int .i64 a3_0) := (blk_cell BK303.out 0).trans rfl; have hcz123_1 : w118.cell? ⟨gb303, 1, none⟩ = some (.int .i64 a3_1) := (blk_cell BK303.out 1).trans rfl; have hfz123_0 := blk_frozen BK303.out 0; have hfz123_1 := blk_frozen BK303.out 1) | ((with_reducible refine gate_callee (f := 14) rfl ?_); refine goesL_ (some 79) rfl rfl Try.func14 (by kernel_rfl) rfl #[.agg #[.string a0_0, .slice A0_1 l0_1.length c0_1, .slice A0_2 l0_2.length c0_2, .slice A0_3 l0_3.length c0_3], .agg #[.int .i64 a1_0, .slice A1_1 l1_1.length c1_1], .agg #[.int .i64 a3_0, .int .i64 a3_1]] rfl MP_ ?_; (with_reducible refine (warrantorref13_Step.calls kj33 a0_0 _ _ l0_1 _ _ l0_2 _ _ l0_3 a1_0 _ _ l1_1 a3_0 a3_1 t319 t320 t323 _ ?side1 ?side2 ?side3 ?side4 ?side5 ?side6 ?side7 ?side8 A69.out).mono ?_); (case side1 => repeat (first | exact (Kd.C_below HR0_1.out HB.out) | (with_reducible refine Kd.C_alloc ?_ _) | (with_reducible refine Kd.C_drewN ?_ _) | (with_reducible refine Kd.C_drew ?_))); (case side2 => exact HC0_1.out); (case side3 => repeat (first | exact (Kd.C_below HR0_2.out HB.out) | (with_reducible refine Kd.C_alloc ?_ _) | (with_reducible refine Kd.C_drewN ?_ _) | (with_reducible refine Kd.C_drew ?_))); (case side4 => exact HC0_2.out); (case side5 => repeat (first | exact (Kd.C_below HR0_3.out HB.out) | (with_reducible refine Kd.C_alloc ?_ _) | (with_reducible refine Kd.C_drewN ?_ _) | (with_reducible refine Kd.C_drew ?_))); (case side6 => exact HC0_3.out); (case side7 => repeat (first | exact (Kd.C_below HR1_1.out HB.out) | (with_reducible refine Kd.C_alloc ?_ _) | (with_reducible refine Kd.C_drewN ?_ _) | (with_reducible refine Kd.C_drew ?_))); (case side8 => exact HC1_1.out); rintro e w124 ⟨v321, rfl, ho0, hb⟩; refine ⟨_, rfl, ?_⟩; have n0_ := Aside0.mk (Kd.R_elder' (by (with_reducible repeat (first | apply Kd.R_alloc | apply Kd.R_drewN | apply Kd.R_drew)); exact HO_312001.out) (Kd.R_base ho0) hb); have n1_ := Aside0.mk (Kd.R_lower (Kd.R_new' ho0 (Kd.R_lt (by (with_reducible repeat (first | apply Kd.R_alloc | apply Kd.R_drewN | apply Kd.R_drew)); exact HO_312001.out))) (below_size HB_)); have n2_ := Aside0.mk (blk_below (g := gb300) (o := .cells #[.string a0_0, .slice A0_1 l0_1.length c0_1, .slice A0_2 l0_2.length c0_2, .slice A0_3 l0_3.length c0_3] 26 (0, 0)) (bk_ BK300.out) hb); have n3_ := Aside0.mk (blk_below (g := gb301) (o := .cells #[.int .i64 a1_0, .slice A1_1 l1_1.length c1_1] 29 (0, 0)) (bk_ BK301.out) hb); have n4_ := Aside0.mk (blk_below (g := gb302) (o := .cells #[.int .i64 a2_0, .slice A2_1 l2_1.length c2_1] 29 (0, 0)) (bk_ BK302.out) hb); have n5_ := Aside0.mk (blk_below (g := gb303) (o := .cells #[.int .i64 a3_0, .int .i64 a3_1] 31 (0, 0)) (bk_ BK303.out) hb); have n6_ := Aside0.mk (blk_below (g := gb311) (o := .cells #[.int .i64 t306, .slice Ao51 t307.length co51] 29 (0, 0)) (bk_ BK311.out) hb); have n7_ := Aside0.mk (below_step HB_ hb); clear HO_312001; clear BK300; clear BK301; clear BK302; clear BK303; clear BK311; clear HB; have HO_312001 := n0_; have HO322 := n1_; have BK300 := n2_; have BK301 := n3_; have BK302 := n4_; have BK303 := n5_; have BK311 := n6_; have HB := n7_; clear n0_ n1_ n2_ n3_ n4_ n5_ n6_ n7_; (try clear hb); (try clear hb2); (try clear hk); (try clear hi); (try clear ho0)) | ((with_reducible refine gate_dst (N := 11) rfl ?_); (try (refine gate_guard (by rfl) ?_; dsimp only)); refine box_event ?hg (N := 11) ?hd (cs := #[.int .i64 0, .slice none 0 0]) (t := 29) ?hr ?_; (case hd => rfl); (case hg => rfl); (case hr => first | (go_simp; done) | (go_simp; rfl)); intro gb324 hg w125 hbox hb; have n0_ := Aside0.mk (Kd.R_below (by (with_reducible repeat (first | apply Kd.R_alloc | apply Kd.R_drewN | apply Kd.R_drew)); exact HO_312001.out) hb); have n1_ := Aside0.mk (Kd.R_below (by (with_reducible repeat (first | apply Kd.R_alloc | apply Kd.R_drewN | apply Kd.R_drew)); exact HO322.out) hb); have n2_ := Aside0.mk (blk_below (g := gb300) (o := .cells #[.string a0_0, .slice A0_1 l0_1.length c0_1, .slice A0_2 l0_2.length c0_2, .slice A0_3 l0_3.length c0_3] 26 (0, 0)) (bk_ BK300.out) hb); have n3_ := Aside0.mk (blk_below (g := gb301) (o := .cells #[.int .i64 a1_0, .slice A1_1 l1_1.length c1_1] 29 (0, 0)) (bk_ BK301.out) hb); have n4_ := Aside0.mk (blk_below (g := gb302) (o := .cells #[.int .i64 a2_0, .slice A2_1 l2_1.length c2_1] 29 (0, 0)) (bk_ BK302.out) hb); have n5_ := Aside0.mk (blk_below (g := gb303) (o := .cells #[.int .i64 a3_0, .int .i64 a3_1] 31 (0, 0)) (bk_ BK303.out) hb); have n6_ := Aside0.mk (blk_below (g := gb311) (o := .cells #[.int .i64 t306, .slice Ao51 t307.length co51] 29 (0, 0)) (bk_ BK311.out) hb); have n7_ := Aside0.mk (below_step HB_ hb); have n8_ := Aside0.mk (hbox); have n9_ := Aside0.mk ((by rw [hg]; exact (below_size HB_) : w.heap.size ≤ gb324)); have n10_ := Aside0.mk ((by rw [hg]; exact (below_size HB_) : w.heap.size ≤ gb324)); have n11_ := Aside0.mk ((by rw [hg]; exact Nat.ne_of_lt (blk_lt (g := gb300) (o := .cells #[.string a0_0, .slice A0_1 l0_1.length c0_1, .slice A0_2 l0_2.length c0_2, .slice A0_3 l0_3.length c0_3] 26 (0, 0)) (bk_ BK300.out)) : gb300 ≠ gb324)); have n12_ := Aside0.mk ((by rw [hg]; exact Nat.ne_of_gt (blk_lt (g := gb300) (o := .cells #[.string a0_0, .slice A0_1 l0_1.length c0_1, .slice A0_2 l0_2.length c0_2, .slice A0_3 l0_3.length c0_3] 26 (0, 0)) (bk_ BK300.out)) : gb324 ≠ gb300)); have n13_ := Aside0.mk ((by rw [hg]; exact Nat.ne_of_lt (blk_lt (g := gb301) (o := .cells #[.int .i64 a1_0, .slice A1_1 l1_1.length c1_1] 29 (0, 0)) (bk_ BK301.out)) : gb301 ≠ gb324)); have n14_ := Aside0.mk ((by rw [hg]; exact Nat.ne_of_gt (blk_lt (g := gb301) (o := .cells #[.int .i64 a1_0, .slice A1_1 l1_1.length c1_1] 29 (0, 0)) (bk_ BK301.out)) : gb324 ≠ gb301)); have n15_ := Aside0.mk ((by rw [hg]; exact Nat.ne_of_lt (blk_lt (g := gb302) (o := .cells #[.int .i64 a2_0, .slice A2_1 l2_1.length c2_1] 29 (0, 0)) (bk_ BK302.out)) : gb302 ≠ gb324)); have n16_ := Aside0.mk ((by rw [hg]; exact Nat.ne_of_gt (blk_lt (g := gb302) (o := .cells #[.int .i64 a2_0, .slice A2_1 l2_1.length c2_1] 29 (0, 0)) (bk_ BK302.out)) : gb324 ≠ gb302)); have n17_ := Aside0.mk ((by rw [hg]; exact Nat.ne_of_lt (blk_lt (g := gb303) (o := .cells #[.int .i64 a3_0, .int .i64 a3_1] 31 (0, 0)) (bk_ BK303.out)) : gb303 ≠ gb324)); have n18_ := Aside0.mk ((by rw [hg]; exact Nat.ne_of_gt (blk_lt (g := gb303) (o := .cells #[.int .i64 a3_0, .int .i64 a3_1] 31 (0, 0)) (bk_ BK303.out)) : gb324 ≠ gb303)); have n19_ := Aside0.mk ((by rw [hg]; exact Nat.ne_of_lt (blk_lt (g := gb311) (o := .cells #[.int .i64 t306, .slice Ao51 t307.length co51] 29 (0, 0)) (bk_ BK311.out)) : gb311 ≠ gb324)); have n20_ := Aside0.mk ((by rw [hg]; exact Nat.ne_of_gt (blk_lt (g := gb311) (o := .cells #[.int .i64 t306, .slice Ao51 t307.length co51] 29 (0, 0)) (bk_ BK311.out)) : gb324 ≠ gb311)); clear HO_312001; clear HO322; clear BK300; clear BK301; clear BK302; clear BK303; clear BK311; clear HB; have HO_312001 := n0_; have HO322 := n1_; have BK300 := n2_; have BK301 := n3_; have BK302 := n4_; have BK303 := n5_; have BK311 := n6_; have HB := n7_; have BK324 := n8_; have GW324 := n9_; have GE324 := n10_; have NB300_324 := n11_; have NB324_300 := n12_; have NB301_324 := n13_; have NB324_301 := n14_; have NB302_324 := n15_; have NB324_302 := n16_; have NB303_324 := n17_; have NB324_303 := n18_; have NB311_324 := n19_; have NB324_311 := n20_; clear n0_ n1_ n2_ n3_ n4_ n5_ n6_ n7_ n8_ n9_ n10_ n11_ n12_ n13_ n14_ n15_ n16_ n17_ n18_ n19_ n20_; clear hb hbox hg; have hnb126 := NB324_300.out; have hnc126 := NB300_324.out; have hnb127 := NB324_301.out; have hnc127 := NB301_324.out; have hnb128 := NB324_302.out; have hnc128 := NB302_324.out; have hnb129 := NB324_303.out; have hnc129 := NB303_324.out; have hnb130 := NB324_311.out; have hnc130 := NB311_324.out; have hcz131_0 : w125.cell? ⟨gb324, 0, none⟩ = some (.int .i64 0) := (blk_cell BK324.out 0).trans rfl; have hcz131_1 : w125.cell? ⟨gb324, 1, none⟩ = some (.slice none 0 0) := (blk_cell BK324.out 1).trans rfl; have hfz131_0 := blk_frozen BK324.out 0; have hfz131_1 := blk_frozen BK324.out 1; obtain ⟨Ao132, co132, eo132⟩ := Kd.R_slice HO322.out; subst eo132; have hcz133_0 : w125.cell? ⟨gb300, 0, none⟩ = some (.string a0_0) := (blk_cell BK300.out 0).trans rfl; have hcz133_1 : w125.cell? ⟨gb300, 1, none⟩ = some (.slice A0_1 l0_1.length c0_1) := (blk_cell BK300.out 1).trans rfl; have hcz133_2 : w125.cell? ⟨gb300, 2, none⟩ = some (.slice A0_2 l0_2.length c0_2) := (blk_cell BK300.out 2).trans rfl; have hcz133_3 : w125.cell? ⟨gb300, 3, none⟩ = some (.slice A0_3 l0_3.length c0_3) := (blk_cell BK300.out 3).trans rfl; have hfz133_0 := blk_frozen BK300.out 0; have hfz133_1 := blk_frozen BK300.out 1; have hfz133_2 := blk_frozen BK300.out 2; have hfz133_3 := blk_frozen BK300.out 3; have hcz134_0 : w125.cell? ⟨gb301, 0, none⟩ = some (.int .i64 a1_0) := (blk_cell BK301.out 0).trans rfl; have hcz134_1 : w125.cell? ⟨gb301, 1, none⟩ = some (.slice A1_1 l1_1.length c1_1) := (blk_cell BK301.out 1).trans rfl; have hfz134_0 := blk_frozen BK301.out 0; have hfz134_1 := blk_frozen BK301.out 1) | ((with_reducible refine gate_callee (f := 12) rfl ?_); refine goesL_ (some 84) rfl rfl Try.func12 (by kernel_rfl) rfl #[.agg #[.string a0_0, .slice A0_1 l0_1.length c0_1, .slice A0_2 l0_2.length c0_2, .slice A0_3 l0_3.length c0_3], .agg #[.int .i64 a1_0, .slice A1_1 l1_1.length c1_1]] rfl MP_ ?_; (with_reducible refine (run_Right.calls a0_0 _ _ l0_1 _ _ l0_2 _ _ l0_3 a1_0 _ _ l1_1 true _ ?side1 ?side2 ?side3 ?side4 ?side5 ?side6 ?side7 ?side8 A70.out).mono ?_); (case side1 => exact Kd.C_below HR0_1.out HB_); (case side2 => exact HC0_1.out); (case side3 => exact Kd.C_below HR0_2.out HB_); (case side4 => exact HC0_2.out); (case side5 => exact Kd.C_below HR0_3.out HB_); (case side6 => exact HC0_3.out); (case side7 => exact Kd.C_below HR1_1.out HB_); (case side8 => exact HC1_1.out); rintro e w135 ⟨rfl, hb⟩; refine ⟨_, rfl, ?_⟩; have n0_ := Aside0.mk (Kd.R_below (by (with_reducible repeat (first | apply Kd.R_alloc | apply Kd.R_drewN | apply Kd.R_drew)); exact (Kd.R_mono (Kd.R_far (p := ⟨gb324, 1, none⟩) (Kd.R_far (p := ⟨gb324, 0, none⟩) (Kd.R_types HO_312001.out BK324.out (by decide)) (fun _ hk => hk.2) (.int .i64 t319)) (fun _ hk => hk.2) (.slice Ao132 t320.length co132)) (fun _ h_ => h_.1))) hb); have n1_ := Aside0.mk (Kd.R_below (by (with_reducible repeat (first | apply Kd.R_alloc | apply Kd.R_drewN | apply Kd.R_drew)); exact (Kd.R_mono (Kd.R_far (p := ⟨gb324, 1, none⟩) (Kd.R_far (p := ⟨gb324, 0, none⟩) (Kd.R_types HO322.out BK324.out (by decide)) (fun _ hk => hk.2) (.int .i64 t319)) (fun _ hk => hk.2) (.slice Ao132 t320.length co132)) (fun _ h_ => h_.1))) hb); have n2_ := Aside0.mk (blk_below (g := gb300) (o := .cells #[.string a0_0, .slice A0_1 l0_1.length c0_1, .slice A0_2 l0_2.length c0_2, .slice A0_3 l0_3.length c0_3] 26 (0, 0)) (bk2_ BK300.out) hb); have n3_ := Aside0.mk (blk_below (g := gb301) (o := .cells #[.int .i64 a1_0, .slice A1_1 l1_1.length c1_1] 29 (0, 0)) (bk2_ BK301.out) hb); have n4_ := Aside0.mk (blk_below (g := gb302) (o := .cells #[.int .i64 a2_0, .slice A2_1 l2_1.length c2_1] 29 (0, 0)) (bk2_ BK302.out) hb); have n5_ := Aside0.mk (blk_below (g := gb303) (o := .cells #[.int .i64 a3_0, .int .i64 a3_1] 31 (0, 0)) (bk2_ BK303.out) hb); have n6_ := Aside0.mk (blk_below (g := gb311) (o := .cells #[.int .i64 t306, .slice Ao51 t307.length co51] 29 (0, 0)) (bk2_ BK311.out) hb); have n7_ := Aside0.mk (blk_below (g := gb324) (o := .cells #[.int .i64 t319, .slice Ao132 t320.length co132] 29 (0, 0)) (bk2_ BK324.out) hb); have n8_ := Aside0.mk (below_step HB_ hb); clear HO_312001; clear HO322; clear BK300; clear BK301; clear BK302; clear BK303; clear BK311; clear BK324; clear HB; have HO_312001 := n0_; have HO322 := n1_; have BK300 := n2_; have BK301 := n3_; have BK302 := n4_; have BK303 := n5_; have BK311 := n6_; have BK324 := n7_; have HB := n8_; clear n0_ n1_ n2_ n3_ n4_ n5_ n6_ n7_ n8_; (try clear hb); (try clear hb2); (try clear hk); (try clear hi)))
          go_ret
          exact ⟨by first | rfl | (simp [errW_none, errW_some] <;> rfl) | (simp [*, errW_none, errW_some] <;> rfl), HB_⟩
        rw [if_pos c72] at H
        have c72b0 : (t310 == t323) = true := beq_iff_eq.mpr c72
        have c72b1 : (t310 != t323) = false := bne_eq_false_iff_eq.mpr c72
        clear c72
        replace H := Option.bind_eq_some_iff.mp H
        obtain ⟨t326, A730, H⟩ := H
        replace H : (some t326) = some r := H
        have A73 := Aside0.mk A730
        clear A730
        obtain rfl := Option.some.inj H
        have hnb74 := NB300_301.out
        have hnc74 := NB301_300.out
        have hnb75 := NB300_302.out
        have hnc75 := NB302_300.out
        have hnb76 := NB300_303.out
        have hnc76 := NB303_300.out
        have hnb77 := NB300_311.out
        have hnc77 := NB311_300.out
        have hcz78_0 : wc.cell? ⟨gb300, 0, none⟩ = some (.string a0_0) := (blk_cell BK300.out 0).trans rfl
        have hcz78_1 : wc.cell? ⟨gb300, 1, none⟩ = some (.slice A0_1 l0_1.length c0_1) := (blk_cell BK300.out 1).trans rfl
        have hcz78_2 : wc.cell? ⟨gb300, 2, none⟩ = some (.slice A0_2 l0_2.length c0_2) := (blk_cell BK300.out 2).trans rfl
        have hcz78_3 : wc.cell? ⟨gb300, 3, none⟩ = some (.slice A0_3 l0_3.length c0_3) := (blk_cell BK300.out 3).trans rfl
        have hfz78_0 := blk_frozen BK300.out 0
        have hfz78_1 := blk_frozen BK300.out 1
        have hfz78_2 := blk_frozen BK300.out 2
        have hfz78_3 := blk_frozen BK300.out 3
        go_wp2_with (first | ((with_reducible refine gate_callee (f := 11) rfl ?_); refine goesL_ (some 43) rfl rfl Try.func11 (by kernel_rfl) rfl #[.agg #[.string a0_0, .slice A0_1 l0_1.length c0_1, .slice A0_2 l0_2.length c0_2, .slice A0_3 l0_3.length c0_3]] rfl MP_ ?_; (with_reducible refine (warrantorref11_Check.calls kj33 a0_0 _ _ l0_1 _ _ l0_2 _ _ l0_3 true _ ?side1 ?side2 ?side3 ?side4 ?side5 ?side6 A65.out).mono ?_); (case side1 => repeat (first | exact (Kd.C_below HR0_1.out HB.out) | (with_reducible refine Kd.C_alloc ?_ _) | (with_reducible refine Kd.C_drewN ?_ _) | (with_reducible refine Kd.C_drew ?_))); (case side2 => exact HC0_1.out); (case side3 => repeat (first | exact (Kd.C_below HR0_2.out HB.out) | (with_reducible refine Kd.C_alloc ?_ _) | (with_reducible refine Kd.C_drewN ?_ _) | (with_reducible refine Kd.C_drew ?_))); (case side4 => exact HC0_2.out); (case side5 => repeat (first | exact (Kd.C_below HR0_3.out HB.out) | (with_reducible refine Kd.C_alloc ?_ _) | (with_reducible refine Kd.C_drewN ?_ _) | (with_reducible refine Kd.C_drew ?_))); (case side6 => exact HC0_3.out); rintro e w79 ⟨rfl, hb⟩; refine ⟨_, rfl, ?_⟩; have n0_ := Aside0.mk (Kd.R_below (by (with_reducible repeat (first | apply Kd.R_alloc | apply Kd.R_drewN | apply Kd.R_drew)); exact HO_312001.out) hb); have n1_ := Aside0.mk (blk_below (g := gb300) (o := .cells #[.string a0_0, .slice A0_1 l0_1.length c0_1, .slice A0_2 l0_2.length c0_2, .slice A0_3 l0_3.length c0_3] 26 (0, 0)) (bk_ BK300.out) hb); have n2_ := Aside0.mk (blk_below (g := gb301) (o := .cells #[.int .i64 a1_0, .slice A1_1 l1_1.length c1_1] 29 (0, 0)) (bk_ BK301.out) hb); have n3_ := Aside0.mk (blk_below (g := gb302) (o := .cells #[.int .i64 a2_0, .slice A2_1 l2_1.length c2_1] 29 (0, 0)) (bk_ BK302.out) hb); have n4_ := Aside0.mk (blk_below (g := gb303) (o := .cells #[.int .i64 a3_0, .int .i64 a3_1] 31 (0, 0)) (bk_ BK303.out) hb); have n5_ := Aside0.mk (blk_below (g := gb311) (o := .cells #[.int .i64 t306, .slice Ao51 t307.length co51] 29 (0, 0)) (bk_ BK311.out) hb); have n6_ := Aside0.mk (below_step HB_ hb); clear HO_312001; clear BK300; clear BK301; clear BK302; clear BK303; clear BK311; clear HB; have HO_312001 := n0_; have BK300 := n1_; have BK301 := n2_; have BK302 := n3_; have BK303 := n4_; have BK311 := n5_; have HB := n6_; clear n0_ n1_ n2_ n3_ n4_ n5_ n6_; (try clear hb); (try clear hb2); (try clear hk); (try clear hi); have hcz80_0 : w79.cell? ⟨gb300, 0, none⟩ = some (.string a0_0) := (blk_cell BK300.out 0).trans rfl; have hcz80_1 : w79.cell? ⟨gb300, 1, none⟩ = some (.slice A0_1 l0_1.length c0_1) := (blk_cell BK300.out 1).trans rfl; have hcz80_2 : w79.cell? ⟨gb300, 2, none⟩ = some (.slice A0_2 l0_2.length c0_2) := (blk_cell BK300.out 2).trans rfl; have hcz80_3 : w79.cell? ⟨gb300, 3, none⟩ = some (.slice A0_3 l0_3.length c0_3) := (blk_cell BK300.out 3).trans rfl; have hfz80_0 := blk_frozen BK300.out 0; have hfz80_1 := blk_frozen BK300.out 1; have hfz80_2 := blk_frozen BK300.out 2; have hfz80_3 := blk_frozen BK300.out 3; have hnb81 := NB301_302.out; have hnc81 := NB302_301.out; have hnb82 := NB301_303.out; have hnc82 := NB303_301.out; have hnb83 := NB301_311.out; have hnc83 := NB311_301.out; have hcz84_0 : w79.cell? ⟨gb301, 0, none⟩ = some (.int .i64 a1_0) := (blk_cell BK301.out 0).trans rfl; have hcz84_1 : w79.cell? ⟨gb301, 1, none⟩ = some (.slice A1_1 l1_1.length c1_1) := (blk_cell BK301.out 1).trans rfl; have hfz84_0 := blk_frozen BK301.out 0; have hfz84_1 := blk_frozen BK301.out 1) | ((with_reducible refine gate_callee (f := 13) rfl ?_); refine goesL_ (some 60) rfl rfl Try.func13 (by kernel_rfl) rfl #[.agg #[.string a0_0, .slice A0_1 l0_1.length c0_1, .slice A0_2 l0_2.length c0_2, .slice A0_3 l0_3.length c0_3], .agg #[.int .i64 a1_0, .slice A1_1 l1_1.length c1_1]] rfl MP_ ?_; (with_reducible refine (warrantorref13_Right.calls kj33 a0_0 _ _ l0_1 _ _ l0_2 _ _ l0_3 a1_0 _ _ l1_1 true _ ?side1 ?side2 ?side3 ?side4 ?side5 ?side6 ?side7 ?side8 A67.out).mono ?_); (case side1 => repeat (first | exact (Kd.C_below HR0_1.out HB.out) | (with_reducible refine Kd.C_alloc ?_ _) | (with_reducible refine Kd.C_drewN ?_ _) | (with_reducible refine Kd.C_drew ?_))); (case side2 => exact HC0_1.out); (case side3 => repeat (first | exact (Kd.C_below HR0_2.out HB.out) | (with_reducible refine Kd.C_alloc ?_ _) | (with_reducible refine Kd.C_drewN ?_ _) | (with_reducible refine Kd.C_drew ?_))); (case side4 => exact HC0_2.out); (case side5 => repeat (first | exact (Kd.C_below HR0_3.out HB.out) | (with_reducible refine Kd.C_alloc ?_ _) | (with_reducible refine Kd.C_drewN ?_ _) | (with_reducible refine Kd.C_drew ?_))); (case side6 => exact HC0_3.out); (case side7 => repeat (first | exact (Kd.C_below HR1_1.out HB.out) | (with_reducible refine Kd.C_alloc ?_ _) | (with_reducible refine Kd.C_drewN ?_ _) | (with_reducible refine Kd.C_drew ?_))); (case side8 => exact HC1_1.out); rintro e w85 ⟨rfl, hb⟩; refine ⟨_, rfl, ?_⟩; have n0_ := Aside0.mk (Kd.R_below (by (with_reducible repeat (first | apply Kd.R_alloc | apply Kd.R_drewN | apply Kd.R_drew)); exact HO_312001.out) hb); have n1_ := Aside0.mk (blk_below (g := gb300) (o := .cells #[.string a0_0, .slice A0_1 l0_1.length c0_1, .slice A0_2 l0_2.length c0_2, .slice A0_3 l0_3.length c0_3] 26 (0, 0)) (bk_ BK300.out) hb); have n2_ := Aside0.mk (blk_below (g := gb301) (o := .cells #[.int .i64 a1_0, .slice A1_1 l1_1.length c1_1] 29 (0, 0)) (bk_ BK301.out) hb); have n3_ := Aside0.mk (blk_below (g := gb302) (o := .cells #[.int .i64 a2_0, .slice A2_1 l2_1.length c2_1] 29 (0, 0)) (bk_ BK302.out) hb); have n4_ := Aside0.mk (blk_below (g := gb303) (o := .cells #[.int .i64 a3_0, .int .i64 a3_1] 31 (0, 0)) (bk_ BK303.out) hb); have n5_ := Aside0.mk (blk_below (g := gb311) (o := .cells #[.int .i64 t306, .slice Ao51 t307.length co51] 29 (0, 0)) (bk_ BK311.out) hb); have n6_ := Aside0.mk (below_step HB_ hb); clear HO_312001; clear BK300; clear BK301; clear BK302; clear BK303; clear BK311; clear HB; have HO_312001 := n0_; have BK300 := n1_; have BK301 := n2_; have BK302 := n3_; have BK303 := n4_; have BK311 := n5_; have HB := n6_; clear n0_ n1_ n2_ n3_ n4_ n5_ n6_; (try clear hb); (try clear hb2); (try clear hk); (try clear hi); have hcz86_0 : w85.cell? ⟨gb300, 0, none⟩ = some (.string a0_0) := (blk_cell BK300.out 0).trans rfl; have hcz86_1 : w85.cell? ⟨gb300, 1, none⟩ = some (.slice A0_1 l0_1.length c0_1) := (blk_cell BK300.out 1).trans rfl; have hcz86_2 : w85.cell? ⟨gb300, 2, none⟩ = some (.slice A0_2 l0_2.length c0_2) := (blk_cell BK300.out 2).trans rfl; have hcz86_3 : w85.cell? ⟨gb300, 3, none⟩ = some (.slice A0_3 l0_3.length c0_3) := (blk_cell BK300.out 3).trans rfl; have hfz86_0 := blk_frozen BK300.out 0; have hfz86_1 := blk_frozen BK300.out 1; have hfz86_2 := blk_frozen BK300.out 2; have hfz86_3 := blk_frozen BK300.out 3; have hcz87_0 : w85.cell? ⟨gb301, 0, none⟩ = some (.int .i64 a1_0) := (blk_cell BK301.out 0).trans rfl; have hcz87_1 : w85.cell? ⟨gb301, 1, none⟩ = some (.slice A1_1 l1_1.length c1_1) := (blk_cell BK301.out 1).trans rfl; have hfz87_0 := blk_frozen BK301.out 0; have hfz87_1 := blk_frozen BK301.out 1; have hnb88 := NB303_302.out; have hnc88 := NB302_303.out; have hnb89 := NB303_311.out; have hnc89 := NB311_303.out; have hcz90_0 : w85.cell? ⟨gb303, 0, none⟩ = some (.int .i64 a3_0) := (blk_cell BK303.out 0).trans rfl; have hcz90_1 : w85.cell? ⟨gb303, 1, none⟩ = some (.int .i64 a3_1) := (blk_cell BK303.out 1).trans rfl; have hfz90_0 := blk_frozen BK303.out 0; have hfz90_1 := blk_frozen BK303.out 1) | ((with_reducible refine gate_callee (f := 14) rfl ?_); refine goesL_ (some 79) rfl rfl Try.func14 (by kernel_rfl) rfl #[.agg #[.string a0_0, .slice A0_1 l0_1.length c0_1, .slice A0_2 l0_2.length c0_2, .slice A0_3 l0_3.length c0_3], .agg #[.int .i64 a1_0, .slice A1_1 l1_1.length c1_1], .agg #[.int .i64 a3_0, .int .i64 a3_1]] rfl MP_ ?_; (with_reducible refine (warrantorref13_Step.calls kj33 a0_0 _ _ l0_1 _ _ l0_2 _ _ l0_3 a1_0 _ _ l1_1 a3_0 a3_1 t319 t320 t323 _ ?side1 ?side2 ?side3 ?side4 ?side5 ?side6 ?side7 ?side8 A69.out).mono ?_); (case side1 => repeat (first | exact (Kd.C_below HR0_1.out HB.out) | (with_reducible refine Kd.C_alloc ?_ _) | (with_reducible refine Kd.C_drewN ?_ _) | (with_reducible refine Kd.C_drew ?_))); (case side2 => exact HC0_1.out); (case side3 => repeat (first | exact (Kd.C_below HR0_2.out HB.out) | (with_reducible refine Kd.C_alloc ?_ _) | (with_reducible refine Kd.C_drewN ?_ _) | (with_reducible refine Kd.C_drew ?_))); (case side4 => exact HC0_2.out); (case side5 => repeat (first | exact (Kd.C_below HR0_3.out HB.out) | (with_reducible refine Kd.C_alloc ?_ _) | (with_reducible refine Kd.C_drewN ?_ _) | (with_reducible refine Kd.C_drew ?_))); (case side6 => exact HC0_3.out); (case side7 => repeat (first | exact (Kd.C_below HR1_1.out HB.out) | (with_reducible refine Kd.C_alloc ?_ _) | (with_reducible refine Kd.C_drewN ?_ _) | (with_reducible refine Kd.C_drew ?_))); (case side8 => exact HC1_1.out); rintro e w91 ⟨v321, rfl, ho0, hb⟩; refine ⟨_, rfl, ?_⟩; have n0_ := Aside0.mk (Kd.R_elder' (by (with_reducible repeat (first | apply Kd.R_alloc | apply Kd.R_drewN | apply Kd.R_drew)); exact HO_312001.out) (Kd.R_base ho0) hb); have n1_ := Aside0.mk (Kd.R_lower (Kd.R_new' ho0 (Kd.R_lt (by (with_reducible repeat (first | apply Kd.R_alloc | apply Kd.R_drewN | apply Kd.R_drew)); exact HO_312001.out))) (below_size HB_)); have n2_ := Aside0.mk (blk_below (g := gb300) (o := .cells #[.string a0_0, .slice A0_1 l0_1.length c0_1, .slice A0_2 l0_2.length c0_2, .slice A0_3 l0_3.length c0_3] 26 (0, 0)) (bk_ BK300.out) hb); have n3_ := Aside0.mk (blk_below (g := gb301) (o := .cells #[.int .i64 a1_0, .slice A1_1 l1_1.length c1_1] 29 (0, 0)) (bk_ BK301.out) hb); have n4_ := Aside0.mk (blk_below (g := gb302) (o := .cells #[.int .i64 a2_0, .slice A2_1 l2_1.length c2_1] 29 (0, 0)) (bk_ BK302.out) hb); have n5_ := Aside0.mk (blk_below (g := gb303) (o := .cells #[.int .i64 a3_0, .int .i64 a3_1] 31 (0, 0)) (bk_ BK303.out) hb); have n6_ := Aside0.mk (blk_below (g := gb311) (o := .cells #[.int .i64 t306, .slice Ao51 t307.length co51] 29 (0, 0)) (bk_ BK311.out) hb); have n7_ := Aside0.mk (below_step HB_ hb); clear HO_312001; clear BK300; clear BK301; clear BK302; clear BK303; clear BK311; clear HB; have HO_312001 := n0_; have HO322 := n1_; have BK300 := n2_; have BK301 := n3_; have BK302 := n4_; have BK303 := n5_; have BK311 := n6_; have HB := n7_; clear n0_ n1_ n2_ n3_ n4_ n5_ n6_ n7_; (try clear hb); (try clear hb2); (try clear hk); (try clear hi); (try clear ho0)) | ((with_reducible refine gate_dst (N := 11) rfl ?_); (try (refine gate_guard (by rfl) ?_; dsimp only)); refine box_event ?hg (N := 11) ?hd (cs := #[.int .i64 0, .slice none 0 0]) (t := 29) ?hr ?_; (case hd => rfl); (case hg => rfl); (case hr => first | (go_simp; done) | (go_simp; rfl)); intro gb324 hg w92 hbox hb; have n0_ := Aside0.mk (Kd.R_below (by (with_reducible repeat (first | apply Kd.R_alloc | apply Kd.R_drewN | apply Kd.R_drew)); exact HO_312001.out) hb); have n1_ := Aside0.mk (Kd.R_below (by (with_reducible repeat (first | apply Kd.R_alloc | apply Kd.R_drewN | apply Kd.R_drew)); exact HO322.out) hb); have n2_ := Aside0.mk (blk_below (g := gb300) (o := .cells #[.string a0_0, .slice A0_1 l0_1.length c0_1, .slice A0_2 l0_2.length c0_2, .slice A0_3 l0_3.length c0_3] 26 (0, 0)) (bk_ BK300.out) hb); have n3_ := Aside0.mk (blk_below (g := gb301) (o := .cells #[.int .i64 a1_0, .slice A1_1 l1_1.length c1_1] 29 (0, 0)) (bk_ BK301.out) hb); have n4_ := Aside0.mk (blk_below (g := gb302) (o := .cells #[.int .i64 a2_0, .slice A2_1 l2_1.length c2_1] 29 (0, 0)) (bk_ BK302.out) hb); have n5_ := Aside0.mk (blk_below (g := gb303) (o := .cells #[.int .i64 a3_0, .int .i64 a3_1] 31 (0, 0)) (bk_ BK303.out) hb); have n6_ := Aside0.mk (blk_below (g := gb311) (o := .cells #[.int .i64 t306, .slice Ao51 t307.length co51] 29 (0, 0)) (bk_ BK311.out) hb); have n7_ := Aside0.mk (below_step HB_ hb); have n8_ := Aside0.mk (hbox); have n9_ := Aside0.mk ((by rw [hg]; exact (below_size HB_) : w.heap.size ≤ gb324)); have n10_ := Aside0.mk ((by rw [hg]; exact (below_size HB_) : w.heap.size ≤ gb324)); have n11_ := Aside0.mk ((by rw [hg]; exact Nat.ne_of_lt (blk_lt (g := gb300) (o := .cells #[.string a0_0, .slice A0_1 l0_1.length c0_1, .slice A0_2 l0_2.length c0_2, .slice A0_3 l0_3.length c0_3] 26 (0, 0)) (bk_ BK300.out)) : gb300 ≠ gb324)); have n12_ := Aside0.mk ((by rw [hg]; exact Nat.ne_of_gt (blk_lt (g := gb300) (o := .cells #[.string a0_0, .slice A0_1 l0_1.length c0_1, .slice A0_2 l0_2.length c0_2, .slice A0_3 l0_3.length c0_3] 26 (0, 0)) (bk_ BK300.out)) : gb324 ≠ gb300)); have n13_ := Aside0.mk ((by rw [hg]; exact Nat.ne_of_lt (blk_lt (g := gb301) (o := .cells #[.int .i64 a1_0, .slice A1_1 l1_1.length c1_1] 29 (0, 0)) (bk_ BK301.out)) : gb301 ≠ gb324)); have n14_ := Aside0.mk ((by rw [hg]; exact Nat.ne_of_gt (blk_lt (g := gb301) (o := .cells #[.int .i64 a1_0, .slice A1_1 l1_1.length c1_1] 29 (0, 0)) (bk_ BK301.out)) : gb324 ≠ gb301)); have n15_ := Aside0.mk ((by rw [hg]; exact Nat.ne_of_lt (blk_lt (g := gb302) (o := .cells #[.int .i64 a2_0, .slice A2_1 l2_1.length c2_1] 29 (0, 0)) (bk_ BK302.out)) : gb302 ≠ gb324)); have n16_ := Aside0.mk ((by rw [hg]; exact Nat.ne_of_gt (blk_lt (g := gb302) (o := .cells #[.int .i64 a2_0, .slice A2_1 l2_1.length c2_1] 29 (0, 0)) (bk_ BK302.out)) : gb324 ≠ gb302)); have n17_ := Aside0.mk ((by rw [hg]; exact Nat.ne_of_lt (blk_lt (g := gb303) (o := .cells #[.int .i64 a3_0, .int .i64 a3_1] 31 (0, 0)) (bk_ BK303.out)) : gb303 ≠ gb324)); have n18_ := Aside0.mk ((by rw [hg]; exact Nat.ne_of_gt (blk_lt (g := gb303) (o := .cells #[.int .i64 a3_0, .int .i64 a3_1] 31 (0, 0)) (bk_ BK303.out)) : gb324 ≠ gb303)); have n19_ := Aside0.mk ((by rw [hg]; exact Nat.ne_of_lt (blk_lt (g := gb311) (o := .cells #[.int .i64 t306, .slice Ao51 t307.length co51] 29 (0, 0)) (bk_ BK311.out)) : gb311 ≠ gb324)); have n20_ := Aside0.mk ((by rw [hg]; exact Nat.ne_of_gt (blk_lt (g := gb311) (o := .cells #[.int .i64 t306, .slice Ao51 t307.length co51] 29 (0, 0)) (bk_ BK311.out)) : gb324 ≠ gb311)); clear HO_312001; clear HO322; clear BK300; clear BK301; clear BK302; clear BK303; clear BK311; clear HB; have HO_312001 := n0_; have HO322 := n1_; have BK300 := n2_; have BK301 := n3_; have BK302 := n4_; have BK303 := n5_; have BK311 := n6_; have HB := n7_; have BK324 := n8_; have GW324 := n9_; have GE324 := n10_; have NB300_324 := n11_; have NB324_300 := n12_; have NB301_324 := n13_; have NB324_301 := n14_; have NB302_324 := n15_; have NB324_302 := n16_; have NB303_324 := n17_; have NB324_303 := n18_; have NB311_324 := n19_; have NB324_311 := n20_; clear n0_ n1_ n2_ n3_ n4_ n5_ n6_ n7_ n8_ n9_ n10_ n11_ n12_ n13_ n14_ n15_ n16_ n17_ n18_ n19_ n20_; clear hb hbox hg; have hnb93 := NB324_300.out; have hnc93 := NB300_324.out; have hnb94 := NB324_301.out; have hnc94 := NB301_324.out; have hnb95 := NB324_302.out; have hnc95 := NB302_324.out; have hnb96 := NB324_303.out; have hnc96 := NB303_324.out; have hnb97 := NB324_311.out; have hnc97 := NB311_324.out; have hcz98_0 : w92.cell? ⟨gb324, 0, none⟩ = some (.int .i64 0) := (blk_cell BK324.out 0).trans rfl; have hcz98_1 : w92.cell? ⟨gb324, 1, none⟩ = some (.slice none 0 0) := (blk_cell BK324.out 1).trans rfl; have hfz98_0 := blk_frozen BK324.out 0; have hfz98_1 := blk_frozen BK324.out 1; obtain ⟨Ao99, co99, eo99⟩ := Kd.R_slice HO322.out; subst eo99; have hcz100_0 : w92.cell? ⟨gb300, 0, none⟩ = some (.string a0_0) := (blk_cell BK300.out 0).trans rfl; have hcz100_1 : w92.cell? ⟨gb300, 1, none⟩ = some (.slice A0_1 l0_1.length c0_1) := (blk_cell BK300.out 1).trans rfl; have hcz100_2 : w92.cell? ⟨gb300, 2, none⟩ = some (.slice A0_2 l0_2.length c0_2) := (blk_cell BK300.out 2).trans rfl; have hcz100_3 : w92.cell? ⟨gb300, 3, none⟩ = some (.slice A0_3 l0_3.length c0_3) := (blk_cell BK300.out 3).trans rfl; have hfz100_0 := blk_frozen BK300.out 0; have hfz100_1 := blk_frozen BK300.out 1; have hfz100_2 := blk_frozen BK300.out 2; have hfz100_3 := blk_frozen BK300.out 3; have hcz101_0 : w92.cell? ⟨gb301, 0, none⟩ = some (.int .i64 a1_0) := (blk_cell BK301.out 0).trans rfl; have hcz101_1 : w92.cell? ⟨gb301, 1, none⟩ = some (.slice A1_1 l1_1.length c1_1) := (blk_cell BK301.out 1).trans rfl; have hfz101_0 := blk_frozen BK301.out 0; have hfz101_1 := blk_frozen BK301.out 1) | ((with_reducible refine gate_callee (f := 12) rfl ?_); refine goesL_ (some 84) rfl rfl Try.func12 (by kernel_rfl) rfl #[.agg #[.string a0_0, .slice A0_1 l0_1.length c0_1, .slice A0_2 l0_2.length c0_2, .slice A0_3 l0_3.length c0_3], .agg #[.int .i64 a1_0, .slice A1_1 l1_1.length c1_1]] rfl MP_ ?_; (with_reducible refine (run_Right.calls a0_0 _ _ l0_1 _ _ l0_2 _ _ l0_3 a1_0 _ _ l1_1 true _ ?side1 ?side2 ?side3 ?side4 ?side5 ?side6 ?side7 ?side8 A70.out).mono ?_); (case side1 => exact Kd.C_below HR0_1.out HB_); (case side2 => exact HC0_1.out); (case side3 => exact Kd.C_below HR0_2.out HB_); (case side4 => exact HC0_2.out); (case side5 => exact Kd.C_below HR0_3.out HB_); (case side6 => exact HC0_3.out); (case side7 => exact Kd.C_below HR1_1.out HB_); (case side8 => exact HC1_1.out); rintro e w102 ⟨rfl, hb⟩; refine ⟨_, rfl, ?_⟩; have n0_ := Aside0.mk (Kd.R_below (by (with_reducible repeat (first | apply Kd.R_alloc | apply Kd.R_drewN | apply Kd.R_drew)); exact (Kd.R_mono (Kd.R_far (p := ⟨gb324, 1, none⟩) (Kd.R_far (p := ⟨gb324, 0, none⟩) (Kd.R_types HO_312001.out BK324.out (by decide)) (fun _ hk => hk.2) (.int .i64 t319)) (fun _ hk => hk.2) (.slice Ao99 t320.length co99)) (fun _ h_ => h_.1))) hb); have n1_ := Aside0.mk (Kd.R_below (by (with_reducible repeat (first | apply Kd.R_alloc | apply Kd.R_drewN | apply Kd.R_drew)); exact (Kd.R_mono (Kd.R_far (p := ⟨gb324, 1, none⟩) (Kd.R_far (p := ⟨gb324, 0, none⟩) (Kd.R_types HO322.out BK324.out (by decide)) (fun _ hk => hk.2) (.int .i64 t319)) (fun _ hk => hk.2) (.slice Ao99 t320.length co99)) (fun _ h_ => h_.1))) hb); have n2_ := Aside0.mk (blk_below (g := gb300) (o := .cells #[.string a0_0, .slice A0_1 l0_1.length c0_1, .slice A0_2 l0_2.length c0_2, .slice A0_3 l0_3.length c0_3] 26 (0, 0)) (bk2_ BK300.out) hb); have n3_ := Aside0.mk (blk_below (g := gb301) (o := .cells #[.int .i64 a1_0, .slice A1_1 l1_1.length c1_1] 29 (0, 0)) (bk2_ BK301.out) hb); have n4_ := Aside0.mk (blk_below (g := gb302) (o := .cells #[.int .i64 a2_0, .slice A2_1 l2_1.length c2_1] 29 (0, 0)) (bk2_ BK302.out) hb); have n5_ := Aside0.mk (blk_below (g := gb303) (o := .cells #[.int .i64 a3_0, .int .i64 a3_1] 31 (0, 0)) (bk2_ BK303.out) hb); have n6_ := Aside0.mk (blk_below (g := gb311) (o := .cells #[.int .i64 t306, .slice Ao51 t307.length co51] 29 (0, 0)) (bk2_ BK311.out) hb); have n7_ := Aside0.mk (blk_below (g := gb324) (o := .cells #[.int .i64 t319, .slice Ao99 t320.length co99] 29 (0, 0)) (bk2_ BK324.out) hb); have n8_ := Aside0.mk (below_step HB_ hb); clear HO_312001; clear HO322; clear BK300; clear BK301; clear BK302; clear BK303; clear BK311; clear BK324; clear HB; have HO_312001 := n0_; have HO322 := n1_; have BK300 := n2_; have BK301 := n3_; have BK302 := n4_; have BK303 := n5_; have BK311 := n6_; have BK324 := n7_; have HB := n8_; clear n0_ n1_ n2_ n3_ n4_ n5_ n6_ n7_ n8_; (try clear hb); (try clear hb2); (try clear hk); (try clear hi); have hnb103 := NB311_302.out; have hnc103 := NB302_311.out; have hcz104_0 : w102.cell? ⟨gb311, 0, none⟩ = some (.int .i64 t306) := (blk_cell BK311.out 0).trans rfl; have hcz104_1 : w102.cell? ⟨gb311, 1, none⟩ = some (.slice Ao51 t307.length co51) := (blk_cell BK311.out 1).trans rfl; have hfz104_0 := blk_frozen BK311.out 0; have hfz104_1 := blk_frozen BK311.out 1; have hcz105_0 : w102.cell? ⟨gb324, 0, none⟩ = some (.int .i64 t319) := (blk_cell BK324.out 0).trans rfl; have hcz105_1 : w102.cell? ⟨gb324, 1, none⟩ = some (.slice Ao99 t320.length co99) := (blk_cell BK324.out 1).trans rfl; have hfz105_0 := blk_frozen BK324.out 0; have hfz105_1 := blk_frozen BK324.out 1) | (go_at_call 10; (with_reducible refine (warrantorref13_Same.calls kj33 t306 _ _ t307 t319 _ _ t320 t326 _ ?side1 ?side2 ?side3 ?side4 A73.out).mono ?_); (case side1 => repeat (first | exact (Kd.R_reads' HO_312001.out).2.2 | (with_reducible refine Kd.C_alloc ?_ _) | (with_reducible refine Kd.C_drewN ?_ _) | (with_reducible refine Kd.C_drew ?_))); (case side2 => exact (Kd.R_reads' HO_312001.out).2.1); (case side3 => repeat (first | exact (Kd.R_reads' HO322.out).2.2 | (with_reducible refine Kd.C_alloc ?_ _) | (with_reducible refine Kd.C_drewN ?_ _) | (with_reducible refine Kd.C_drew ?_))); (case side4 => exact (Kd.R_reads' HO322.out).2.1); rintro e w106 ⟨rfl, hb⟩; have n0_ := Aside0.mk (Kd.R_below (by (with_reducible repeat (first | apply Kd.R_alloc | apply Kd.R_drewN | apply Kd.R_drew)); exact HO_312001.out) hb); have n1_ := Aside0.mk (Kd.R_below (by (with_reducible repeat (first | apply Kd.R_alloc | apply Kd.R_drewN | apply Kd.R_drew)); exact HO322.out) hb); have n2_ := Aside0.mk (blk_below (g := gb300) (o := .cells #[.string a0_0, .slice A0_1 l0_1.length c0_1, .slice A0_2 l0_2.length c0_2, .slice A0_3 l0_3.length c0_3] 26 (0, 0)) (bk_ BK300.out) hb); have n3_ := Aside0.mk (blk_below (g := gb301) (o := .cells #[.int .i64 a1_0, .slice A1_1 l1_1.length c1_1] 29 (0, 0)) (bk_ BK301.out) hb); have n4_ := Aside0.mk (blk_below (g := gb302) (o := .cells #[.int .i64 a2_0, .slice A2_1 l2_1.length c2_1] 29 (0, 0)) (bk_ BK302.out) hb); have n5_ := Aside0.mk (blk_below (g := gb303) (o := .cells #[.int .i64 a3_0, .int .i64 a3_1] 31 (0, 0)) (bk_ BK303.out) hb); have n6_ := Aside0.mk (blk_below (g := gb311) (o := .cells #[.int .i64 t306, .slice Ao51 t307.length co51] 29 (0, 0)) (bk_ BK311.out) hb); have n7_ := Aside0.mk (blk_below (g := gb324) (o := .cells #[.int .i64 t319, .slice Ao99 t320.length co99] 29 (0, 0)) (bk_ BK324.out) hb); have n8_ := Aside0.mk (below_step HB_ hb); clear HO_312001; clear HO322; clear BK300; clear BK301; clear BK302; clear BK303; clear BK311; clear BK324; clear HB; have HO_312001 := n0_; have HO322 := n1_; have BK300 := n2_; have BK301 := n3_; have BK302 := n4_; have BK303 := n5_; have BK311 := n6_; have BK324 := n7_; have HB := n8_; clear n0_ n1_ n2_ n3_ n4_ n5_ n6_ n7_ n8_; (try clear hb); (try clear hb2); (try clear hk); (try clear hi)))
        go_ret
        exact ⟨by first | rfl | (simp [errW_none, errW_some] <;> rfl) | (simp [*, errW_none, errW_some] <;> rfl), HB_⟩
/-- THE ONE PURE STATEMENT of warrantorlaw13_RunSteps: yours. -/
def warrantorlaw13_RunSteps.Pure : Prop := ∀ (a0_0 : ByteArray) (l0_1 : List ByteArray) (l0_2 : List (S53)) (l0_3 : List (S57)) (a1_0 : Int) (l1_1 : List Int) (a2_0 : Int) (l2_1 : List Int) (a3_0 : Int) (a3_1 : Int), a0_0.size ≤ 140737488351232 → l0_1.length ≤ maxLen → l0_1.length * 16 ≤ 140737488351232 → (∀ x ∈ l0_1, x.size ≤ 140737488351232) → l0_2.length ≤ maxLen → l0_2.length * 40 ≤ 140737488351232 → (∀ x ∈ l0_2, x.f0.size ≤ 140737488351232 ∧ x.f1.size ≤ 140737488351232 ∧ (Lit.int .i64 x.f2).wf = true) → l0_3.length ≤ maxLen → l0_3.length * 56 ≤ 140737488351232 → (∀ x ∈ l0_3, (Lit.int .i64 x.f0).wf = true ∧ (Lit.int .i64 x.f1).wf = true ∧ (Lit.int .i64 x.f2.f0).wf = true ∧ (Lit.int .i64 x.f2.f1).wf = true ∧ (Lit.int .i64 x.f2.f2).wf = true ∧ (Lit.int .i64 x.f2.f3).wf = true ∧ (Lit.int .i64 x.f2.f4).wf = true) → (Lit.int .i64 a1_0).wf = true → l1_1.length ≤ maxLen → l1_1.length * 8 ≤ 140737488351232 → (∀ x ∈ l1_1, (Lit.int .i64 x).wf = true) → (Lit.int .i64 a2_0).wf = true → l2_1.length ≤ maxLen → l2_1.length * 8 ≤ 140737488351232 → (∀ x ∈ l2_1, (Lit.int .i64 x).wf = true) → (Lit.int .i64 a3_0).wf = true → (Lit.int .i64 a3_1).wf = true → ∃ k, warrantorlaw13_RunSteps.f k a0_0 l0_1 l0_2 l0_3 a1_0 l1_1 a2_0 l2_1 a3_0 a3_1 = some true
theorem warrantorlaw13_RunSteps.walk (P : warrantorlaw13_RunSteps.Pure) (a0_0 : ByteArray) (a0_1 : Option Addr) (cap0_1 : Nat) (l0_1 : List ByteArray) (a0_2 : Option Addr) (cap0_2 : Nat) (l0_2 : List (S53)) (a0_3 : Option Addr) (cap0_3 : Nat) (l0_3 : List (S57)) (a1_0 : Int) (a1_1 : Option Addr) (len1_1 cap1_1 : Nat) (z1_1 : List Int) (a2_0 : Int) (a2_1 : Option Addr) (len2_1 cap2_1 : Nat) (z2_1 : List Int) (a3_0 : Int) (a3_1 : Int) (w : World) (w0_0 : a0_0.size ≤ 140737488351232) (hr0_1 : Kd.C Kd.string w a0_1 l0_1.length l0_1) (hc0_1 : l0_1.length ≤ cap0_1) (hm0_1 : l0_1.length ≤ maxLen) (y0_1 : l0_1.length * 16 ≤ 140737488351232) (hw0_1 : ∀ x ∈ l0_1, x.size ≤ 140737488351232) (hr0_2 : Kd.C k53 w a0_2 l0_2.length l0_2) (hc0_2 : l0_2.length ≤ cap0_2) (hm0_2 : l0_2.length ≤ maxLen) (y0_2 : l0_2.length * 40 ≤ 140737488351232) (hw0_2 : ∀ x ∈ l0_2, x.f0.size ≤ 140737488351232 ∧ x.f1.size ≤ 140737488351232 ∧ (Lit.int .i64 x.f2).wf = true) (hr0_3 : Kd.C k57 w a0_3 l0_3.length l0_3) (hc0_3 : l0_3.length ≤ cap0_3) (hm0_3 : l0_3.length ≤ maxLen) (y0_3 : l0_3.length * 56 ≤ 140737488351232) (hw0_3 : ∀ x ∈ l0_3, (Lit.int .i64 x.f0).wf = true ∧ (Lit.int .i64 x.f1).wf = true ∧ (Lit.int .i64 x.f2.f0).wf = true ∧ (Lit.int .i64 x.f2.f1).wf = true ∧ (Lit.int .i64 x.f2.f2).wf = true ∧ (Lit.int .i64 x.f2.f3).wf = true ∧ (Lit.int .i64 x.f2.f4).wf = true) (w1_0 : (Lit.int .i64 a1_0).wf = true) (w1_1 : (a1_1 = none ∧ len1_1 = 0 ∧ cap1_1 = 0 ∧ z1_1 = []) ∨ ∃ x, a1_1 = some x ∧ len1_1 ≤ cap1_1 ∧ cap1_1 ≤ maxLen ∧ z1_1.length = cap1_1 ∧ (∀ i, i < z1_1.length → w.cell? (x.add i) = some (.int .i64 (z1_1.getD i 0))) ∧ ∀ n ∈ z1_1, (Lit.int .i64 n).wf = true) (y1_1 : len1_1 * 8 ≤ 140737488351232) (w2_0 : (Lit.int .i64 a2_0).wf = true) (w2_1 : (a2_1 = none ∧ len2_1 = 0 ∧ cap2_1 = 0 ∧ z2_1 = []) ∨ ∃ x, a2_1 = some x ∧ len2_1 ≤ cap2_1 ∧ cap2_1 ≤ maxLen ∧ z2_1.length = cap2_1 ∧ (∀ i, i < z2_1.length → w.cell? (x.add i) = some (.int .i64 (z2_1.getD i 0))) ∧ ∀ n ∈ z2_1, (Lit.int .i64 n).wf = true) (y2_1 : len2_1 * 8 ≤ 140737488351232) (w3_0 : (Lit.int .i64 a3_0).wf = true) (w3_1 : (Lit.int .i64 a3_1).wf = true) :
  Calls Try.prog 3 #[.agg #[.string a0_0, .slice a0_1 l0_1.length cap0_1, .slice a0_2 l0_2.length cap0_2, .slice a0_3 l0_3.length cap0_3], .agg #[.int .i64 a1_0, .slice a1_1 len1_1 cap1_1], .agg #[.int .i64 a2_0, .slice a2_1 len2_1 cap2_1], .agg #[.int .i64 a3_0, .int .i64 a3_1]] w fun e w' => e = .returned (.bool true) ∧ Below w.heap.size w w' := by
 obtain ⟨l1_1, rfl, hr1_1, hm1_1, hw1_1, hc1_1⟩ := ReadsInt.ofRowC w1_1
 obtain ⟨l2_1, rfl, hr2_1, hm2_1, hw2_1, hc2_1⟩ := ReadsInt.ofRowC w2_1
 obtain ⟨k, h⟩ := P a0_0 l0_1 l0_2 l0_3 a1_0 l1_1 a2_0 l2_1 a3_0 a3_1 w0_0 hm0_1 y0_1 hw0_1 hm0_2 y0_2 hw0_2 hm0_3 y0_3 hw0_3 w1_0 hm1_1 y1_1 hw1_1 w2_0 hm2_1 y2_1 hw2_1 w3_0 w3_1
 refine (warrantorlaw13_RunSteps.calls k a0_0 _ _ l0_1 _ _ l0_2 _ _ l0_3 a1_0 _ _ l1_1 a2_0 _ _ l2_1 a3_0 a3_1 true w hr0_1 hc0_1 hr0_2 hc0_2 hr0_3 hc0_3 (Kd.C_of_reads (d := (0 : Int)) (h1 := fun _ => rfl) hr1_1) hc1_1 (Kd.C_of_reads (d := (0 : Int)) (h1 := fun _ => rfl) hr2_1) hc2_1 h).mono ?_
 rintro e w' ⟨rfl, hd⟩
 exact ⟨rfl, hd⟩
end Go.Proofs.Ytpcpbeklaibdfaa.C
