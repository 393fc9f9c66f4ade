-- WRITTEN BY this session's program wip/ext.py, in print.py's manner
import Derived.Test.YtgeemdpflcefkaaZx0
import Derived.Test.YtgeemdpflcefkaaZx4
import Derived.Test.YtgeemdpflcefkaaZx8
import Derived.Test.YtgeemdpflcefkaaZx9
import Derived.Test.YtgeemdpflcefkaaZx13
import Derived.Test.YtgeemdpflcefkaaZx14
import Derived.Test.YtgeemdpflcefkaaZx18
namespace Go.Proofs.Ytgeemdpflcefkaa.Z
open Go.RowKit Go.Proofs.YtgeemdpflcefkaaW.PrintWords Go.Proofs.YtgeemdpflcefkaaW.PrintLast Go.Proofs.YtgeemdpflcefkaaW.PrintMore
attribute [local go_sem] max2_int min2_int max_two min_two max_three min_three max_four min_four   -- for this text's walks alone
set_option linter.unusedVariables false
set_option linter.unusedSimpArgs false

/-! ### ext zone_Itv: function 26 -/

def zone_Itv.f (k : Nat) (a0_0 : Int) (l0_1 : List Int) (a1 : Int) : Option (Int × Int × Int) := (zone_may.f k a0_0 l0_1 a1 0 0).bind fun e => if e = 0 then (if l0_1 = [] then (itv_None.f).bind fun v => some (v.1, v.2, 0) else if fitZ a0_0 l0_1 a1 0 then (val_Neg.f (rd l0_1 ((a1.toNat : Nat) : Int))).bind fun t => (itv_Of.f t (rd l0_1 ((a1.toNat * (a0_0.toNat + 1) : Nat) : Int))).bind fun v => some (v.1, v.2, 0) else none) else some (0, 0, e)
theorem zone_Itv.mono : ∀ a0 a1 a2 k, LeO (zone_Itv.f k a0 a1 a2) (zone_Itv.f (k + 1) a0 a1 a2) := by
  intro a0 a1 a2 k
  unfold zone_Itv.f
  exact LeO.bind (zone_may.mono _ _ _ _ _ k) (fun e => LeO.refl _)
def zone_Itv.T7 : Bool × List (List Nat × List Nat) := (true, [([], []), ([0], [0]), ([1], [1]), ([2], [2]), ([], []), ([], []), ([4, 5], [4, 5]), ([3, 6], [3, 6]), ([7], [7]), ([8, 6], [8]), ([], []), ([10], [10]), ([11], [11]), ([12], [12]), ([], []), ([], []), ([14, 15, 9], [14, 15]), ([13, 16], [13, 16]), ([17], [17]), ([9, 18, 16], [9, 18]), ([19, 19, 0, 1, 2, 3, 4, 5, 6, 7, 8, 9, 10, 11, 12, 13, 14, 15, 16, 17, 18, 19], [19]), ([20, 0, 1, 2, 3, 4, 5, 6, 7, 8, 9, 10, 11, 12, 13, 14, 15, 16, 17, 18, 19, 20], [])])
def zone_Itv.B7 : List Nat := [0, 1, 3, 7, 0, 0, 48, 127, 255, 511, 0, 1024, 3072, 7168, 0, 0, 50175, 131071, 262143, 524287, 1048575, 2097151]
theorem zone_Itv.tab7 : rtab .any (opsOf Try.f26 7) = zone_Itv.T7 := by kernel_rfl
theorem zone_Itv.bits7 : waitsOk zone_Itv.T7.2 zone_Itv.B7 = true := by kernel_rfl
set_option maxHeartbeats 8000000 in
set_option maxRecDepth 100000 in
theorem zone_Itv.calls (k : Nat) (a0_0 : Int) (A0_1 : Option Addr) (c0_1 : Nat) (l0_1 : List Int) (a1 : Int) (r1 : Int) (r2 : Int) (r3 : Int) (w : World) (hr0_1 : Kd.C (Kd.int .i64) w A0_1 l0_1.length l0_1) (hc0_1 : l0_1.length ≤ c0_1) (h : zone_Itv.f k a0_0 l0_1 a1 = some (r1, r2, r3)) :
    Calls Try.prog 26 #[.agg #[.int .i64 a0_0, .slice A0_1 l0_1.length c0_1], .int .i64 a1] w fun e w' => e = .returned (.tuple #[.agg #[.int .i64 r1, .int .i64 r2], .int .i64 r3]) ∧ Below w.heap.size w w' := by
  have hu24 := Try.underlying24
  have hu39 := Try.underlying39
  have HC := Aside0.mk hr0_1
  have HC0 := Aside0.mk hc0_1
  have HB := Aside0.mk (Below.refl w.heap.size w)
  obtain ⟨e, he, h⟩ := Option.bind_eq_some_iff.1 h
  have HMF := Aside0.mk he
  have HM : Aside0 (∀ w1, Below w.heap.size w w1 → _) := ⟨fun w1 hb => zone_may.calls k a0_0 A0_1 c0_1 l0_1 a1 0 0 e w1 (Kd.C_below HC.out hb) HC0.out HMF.out⟩
  clear hr0_1 hc0_1 he
  by_cases c0 : e = 0
  rotate_left
  · rw [if_neg c0] at h
    obtain ⟨rfl, rfl, rfl⟩ : 0 = r1 ∧ 0 = r2 ∧ e = r3 := by simpa using h
    clear h
    have c0b0 : (e == 0) = false := beq_eq_false_iff_ne.mpr c0
    have c0b1 : (e != 0) = true := bne_iff_ne.mpr c0
    clear c0
    go_enter Try.func26, Try.ntmps26
    go_wp2_with (first | ((with_reducible refine gate_dst (N := 2) rfl ?_); refine bx_ (N := 2) (cs := #[.int .i64 a0_0, .slice A0_1 l0_1.length c0_1]) (t := 24) ?_; intro gz hg w4 hbox hb; have n_ := a_ (Aside0.mk (below_step HB.out hb)) (Aside0.mk hbox); clear HB; obtain ⟨HB, BZ⟩ := n_; clear hb hbox hg) | ((with_reducible refine gate_dst (N := 4) rfl ?_); refine bx_ (N := 4) (cs := #[.int .i64 0, .int .i64 0]) (t := 39) ?_; intro gr hg w5 hbox hb; have n0_ := Aside0.mk (below_step HB.out hb); have n1_ := Aside0.mk (hbox); have n2_ := Aside0.mk ((by rw [hg]; exact (below_size HB.out) : w.heap.size ≤ gr)); have n4_ := Aside0.mk (blk_below BZ.out hb); clear HB BZ; have HB := n0_; have BR := n1_; have GR := n2_; have BZ := n4_; clear n0_ n1_ n2_ n4_; clear hb hbox hg; have hz0 : w5.cell? ⟨gz, 0, none⟩ = some (.int .i64 a0_0) := (blk_cell BZ.out 0).trans rfl; have hz1 : w5.cell? ⟨gz, 1, none⟩ = some (.slice A0_1 l0_1.length c0_1) := (blk_cell BZ.out 1).trans rfl) | ((with_reducible refine gate_dst (N := 10) rfl ?_); (with_reducible refine gate_callee (f := 64) rfl ?_); refine goesL_ (some 10) rfl rfl Try.func64 (by kernel_rfl) rfl #[.agg #[.int .i64 a0_0, .slice A0_1 l0_1.length c0_1], .int .i64 a1, .int .i64 0, .int .i64 0] rfl (by (try simp only [List.map_toArray, List.map_cons, List.map_nil]); first | done | rfl) ?_; (with_reducible refine (HM.out _ HB.out).mono ?_); rintro e_ w6 ⟨rfl, hb⟩; refine ⟨_, rfl, ?_⟩; clear hz0 hz1; have n0_ := Aside0.mk (below_step HB.out hb); have n1_ := Aside0.mk (blk_below BR.out hb); have n4_ := Aside0.mk (blk_below BZ.out hb); clear HB BZ BR hb HM; have HB := n0_; have BR := n1_; have BZ := n4_; clear n0_ n1_ n4_; have hz0 : w6.cell? ⟨gz, 0, none⟩ = some (.int .i64 a0_0) := (blk_cell BZ.out 0).trans rfl; have hz1 : w6.cell? ⟨gz, 1, none⟩ = some (.slice A0_1 l0_1.length c0_1) := (blk_cell BZ.out 1).trans rfl; have hr0 : w6.cell? ⟨gr, 0, none⟩ = some (.int .i64 0) := (blk_cell BR.out 0).trans rfl; have hr1 : w6.cell? ⟨gr, 1, none⟩ = some (.int .i64 0) := (blk_cell BR.out 1).trans rfl; have hf0 := blk_frozen BR.out 0; have hf1 := blk_frozen BR.out 1))
    refine bodyPost_ret (results_ct rfl _ _ gr 39 #[.int .i64 0, .int .i64 0] (0, 0) _ rfl (by refine blk_put (cs := #[.int .i64 0, .int .i64 0]) ?_ 1 _ rfl; refine blk_put (cs := #[.int .i64 0, .int .i64 0]) ?_ 0 _ rfl; exact BR.out) Try.underlying39 rfl (by kernel_rfl)) rfl ?_
    exact ⟨rfl, below_set (below_set HB.out GR.out) GR.out⟩

  subst c0
  rw [if_pos rfl] at h
  by_cases c1 : l0_1 = []
  · rw [if_pos c1] at h
    obtain ⟨⟨q1, q2⟩, hq, h⟩ := Option.bind_eq_some_iff.1 h
    obtain ⟨rfl, rfl, rfl⟩ : q1 = r1 ∧ q2 = r2 ∧ 0 = r3 := by simpa using h
    have HQ := Aside0.mk hq
    clear h hq
    have hl : (l0_1.length : Int) = 0 := by rw [c1]; rfl
    have hln : ((l0_1.length : Int) == 0) = true := beq_iff_eq.mpr hl
    clear hl
    clear c1
    go_enter Try.func26, Try.ntmps26
    go_wp2_with (first | ((with_reducible refine gate_dst (N := 2) rfl ?_); refine bx_ (N := 2) (cs := #[.int .i64 a0_0, .slice A0_1 l0_1.length c0_1]) (t := 24) ?_; intro gz hg w4 hbox hb; have n_ := a_ (Aside0.mk (below_step HB.out hb)) (Aside0.mk hbox); clear HB; obtain ⟨HB, BZ⟩ := n_; clear hb hbox hg) | ((with_reducible refine gate_dst (N := 4) rfl ?_); refine bx_ (N := 4) (cs := #[.int .i64 0, .int .i64 0]) (t := 39) ?_; intro gr hg w5 hbox hb; have n0_ := Aside0.mk (below_step HB.out hb); have n1_ := Aside0.mk (hbox); have n2_ := Aside0.mk ((by rw [hg]; exact (below_size HB.out) : w.heap.size ≤ gr)); have n4_ := Aside0.mk (blk_below BZ.out hb); clear HB BZ; have HB := n0_; have BR := n1_; have GR := n2_; have BZ := n4_; clear n0_ n1_ n2_ n4_; clear hb hbox hg; have hz0 : w5.cell? ⟨gz, 0, none⟩ = some (.int .i64 a0_0) := (blk_cell BZ.out 0).trans rfl; have hz1 : w5.cell? ⟨gz, 1, none⟩ = some (.slice A0_1 l0_1.length c0_1) := (blk_cell BZ.out 1).trans rfl) | ((with_reducible refine gate_dst (N := 10) rfl ?_); (with_reducible refine gate_callee (f := 64) rfl ?_); refine goesL_ (some 10) rfl rfl Try.func64 (by kernel_rfl) rfl #[.agg #[.int .i64 a0_0, .slice A0_1 l0_1.length c0_1], .int .i64 a1, .int .i64 0, .int .i64 0] rfl (by (try simp only [List.map_toArray, List.map_cons, List.map_nil]); first | done | rfl) ?_; (with_reducible refine (HM.out _ HB.out).mono ?_); rintro e_ w6 ⟨rfl, hb⟩; refine ⟨_, rfl, ?_⟩; clear hz0 hz1; have n0_ := Aside0.mk (below_step HB.out hb); have n1_ := Aside0.mk (blk_below BR.out hb); have n4_ := Aside0.mk (blk_below BZ.out hb); clear HB BZ BR hb HM; have HB := n0_; have BR := n1_; have BZ := n4_; clear n0_ n1_ n4_; have hz0 : w6.cell? ⟨gz, 0, none⟩ = some (.int .i64 a0_0) := (blk_cell BZ.out 0).trans rfl; have hz1 : w6.cell? ⟨gz, 1, none⟩ = some (.slice A0_1 l0_1.length c0_1) := (blk_cell BZ.out 1).trans rfl; have hr0 : w6.cell? ⟨gr, 0, none⟩ = some (.int .i64 0) := (blk_cell BR.out 0).trans rfl; have hr1 : w6.cell? ⟨gr, 1, none⟩ = some (.int .i64 0) := (blk_cell BR.out 1).trans rfl; have hf0 := blk_frozen BR.out 0; have hf1 := blk_frozen BR.out 1) | ((with_reducible refine gate_dst (N := 19) rfl ?_); (with_reducible refine gate_callee (f := 71) rfl ?_); refine goesL_ (some 19) rfl rfl Try.func71 (by kernel_rfl) rfl #[] rfl (by (try simp only [List.map_toArray, List.map_cons, List.map_nil]); first | done | rfl) ?_; (with_reducible refine (itv_None.calls q1 q2 _ HQ.out).mono ?_); rintro e_ w8 ⟨rfl, hb⟩; refine ⟨_, rfl, ?_⟩; clear hz0 hz1 hr0 hr1 hf0 hf1; have n_ := a_ (Aside0.mk (below_step HB.out hb)) (Aside0.mk (blk_below BR.out hb)); clear HB BR hb; obtain ⟨HB, BR⟩ := n_; have hr0 : w8.cell? ⟨gr, 0, none⟩ = some (.int .i64 0) := (blk_cell BR.out 0).trans rfl; have hr1 : w8.cell? ⟨gr, 1, none⟩ = some (.int .i64 0) := (blk_cell BR.out 1).trans rfl; have hf0 := blk_frozen BR.out 0; have hf1 := blk_frozen BR.out 1))
    refine bodyPost_ret (results_ct rfl _ _ gr 39 #[.int .i64 q1, .int .i64 q2] (0, 0) _ rfl (by refine blk_put (cs := #[.int .i64 q1, .int .i64 0]) ?_ 1 _ rfl; refine blk_put (cs := #[.int .i64 0, .int .i64 0]) ?_ 0 _ rfl; exact BR.out) Try.underlying39 rfl (by kernel_rfl)) rfl ?_
    exact ⟨rfl, below_set (below_set HB.out GR.out) GR.out⟩
  rw [if_neg c1] at h
  by_cases hfit : fitZ a0_0 l0_1 a1 0 = true
  case neg =>
    rw [if_neg hfit] at h
    cases h
  rw [if_pos hfit] at h
  obtain ⟨t, ht, h⟩ := Option.bind_eq_some_iff.1 h
  obtain ⟨⟨q1, q2⟩, hq, h⟩ := Option.bind_eq_some_iff.1 h
  obtain ⟨rfl, rfl, rfl⟩ : q1 = r1 ∧ q2 = r2 ∧ 0 = r3 := by simpa using h
  clear h
  obtain ⟨n, i, rfl, rfl⟩ : ∃ n i : Nat, a0_0 = n ∧ a1 = i := ⟨a0_0.toNat, a1.toNat, (fitZ_out hfit).1, (fitZ_out hfit).2.2.1⟩
  obtain ⟨-, hn, -, hi, -, -, hlen⟩ := fitZ_out hfit
  rw [Int.toNat_natCast] at hn hi hlen ht hq
  rw [Int.toNat_natCast] at hi hq
  replace hlen := hlen.resolve_left c1
  obtain ⟨p1, hp1⟩ : ∃ p : Nat, p = 0 * (n + 1) + i := ⟨_, rfl⟩
  obtain ⟨p2, hp2⟩ : ∃ p : Nat, p = i * (n + 1) + 0 := ⟨_, rfl⟩
  have hl1 : p1 < l0_1.length := by
    rw [hlen, hp1]
    exact place_lt (by omega) hi
  have hl2 : p2 < l0_1.length := by
    rw [hlen, hp2]
    exact place_lt hi (by omega)
  rw [show i = p1 by rw [hp1]; omega] at ht
  rw [show i * (n + 1) = p2 by rw [hp2]; omega] at hq
  have hpa0 : (0 : Int) ≤ (p1 : Int) := Int.natCast_nonneg _
  have hpa1 : (p1 : Int) < (l0_1.length : Int) := Int.ofNat_lt.2 hl1
  have hpb0 : (0 : Int) ≤ (p2 : Int) := Int.natCast_nonneg _
  have hpb1 : (p2 : Int) < (l0_1.length : Int) := Int.ofNat_lt.2 hl2
  have hl : ¬ ((l0_1.length : Int) = 0) := by omega
  have hln : ((l0_1.length : Int) == 0) = false := beq_eq_false_iff_ne.mpr hl
  clear hl
  obtain ⟨ad, rfl, hcA⟩ := Kd.at_int HC.out (p1 : Int) hpa0 hpa1
  obtain ⟨ad', had, hcB⟩ := Kd.at_int HC.out (p2 : Int) hpb0 hpb1
  obtain rfl : ad = ad' := Option.some.inj had
  rw [Int.toNat_natCast] at hcA hcB
  have HA1 : Aside0 (∀ w', Below w.heap.size w w' → w'.cell? (ad.add p1) = some (.int .i64 (rd l0_1 (p1 : Int)))) := ⟨fun w' hb => (hb.cell (cell_lt_ hcA)).trans hcA⟩
  have HA2 : Aside0 (∀ w', Below w.heap.size w w' → w'.cell? (ad.add p2) = some (.int .i64 (rd l0_1 (p2 : Int)))) := ⟨fun w' hb => (hb.cell (cell_lt_ hcB)).trans hcB⟩
  have HT := Aside0.mk ht
  have HQ := Aside0.mk hq
  have HP1 := Aside0.mk hp1
  have HP2 := Aside0.mk hp2
  have HN := Aside0.mk hn
  have HI := Aside0.mk hi
  clear hcA hcB had ht hq hp1 hp2 hlen hfit c1 hl1 hl2 hn hi
  go_enter Try.func26, Try.ntmps26
  go_wp2_with (first | ((with_reducible refine gate_dst (N := 2) rfl ?_); refine bx_ (N := 2) (cs := #[.int .i64 (n : Int), .slice (some ad) l0_1.length c0_1]) (t := 24) ?_; intro gz hg w4 hbox hb; have n_ := a_ (Aside0.mk (below_step HB.out hb)) (Aside0.mk hbox); clear HB; obtain ⟨HB, BZ⟩ := n_; clear hb hbox hg) | ((with_reducible refine gate_dst (N := 4) rfl ?_); refine bx_ (N := 4) (cs := #[.int .i64 0, .int .i64 0]) (t := 39) ?_; intro gr hg w5 hbox hb; have n0_ := Aside0.mk (below_step HB.out hb); have n1_ := Aside0.mk (hbox); have n2_ := Aside0.mk ((by rw [hg]; exact (below_size HB.out) : w.heap.size ≤ gr)); have n4_ := Aside0.mk (blk_below BZ.out hb); clear HB BZ; have HB := n0_; have BR := n1_; have GR := n2_; have BZ := n4_; clear n0_ n1_ n2_ n4_; clear hb hbox hg; have hz0 : w5.cell? ⟨gz, 0, none⟩ = some (.int .i64 (n : Int)) := (blk_cell BZ.out 0).trans rfl; have hz1 : w5.cell? ⟨gz, 1, none⟩ = some (.slice (some ad) l0_1.length c0_1) := (blk_cell BZ.out 1).trans rfl) | ((with_reducible refine gate_dst (N := 10) rfl ?_); (with_reducible refine gate_callee (f := 64) rfl ?_); refine goesL_ (some 10) rfl rfl Try.func64 (by kernel_rfl) rfl #[.agg #[.int .i64 (n : Int), .slice (some ad) l0_1.length c0_1], .int .i64 (i : Int), .int .i64 0, .int .i64 0] rfl (by (try simp only [List.map_toArray, List.map_cons, List.map_nil]); first | done | rfl) ?_; (with_reducible refine (HM.out _ HB.out).mono ?_); rintro e_ w6 ⟨rfl, hb⟩; refine ⟨_, rfl, ?_⟩; clear hz0 hz1; have n0_ := Aside0.mk (below_step HB.out hb); have n1_ := Aside0.mk (blk_below BR.out hb); have n4_ := Aside0.mk (blk_below BZ.out hb); clear HB BZ BR hb HM; have HB := n0_; have BR := n1_; have BZ := n4_; clear n0_ n1_ n4_; have hz0 : w6.cell? ⟨gz, 0, none⟩ = some (.int .i64 (n : Int)) := (blk_cell BZ.out 0).trans rfl; have hz1 : w6.cell? ⟨gz, 1, none⟩ = some (.slice (some ad) l0_1.length c0_1) := (blk_cell BZ.out 1).trans rfl; have hr0 : w6.cell? ⟨gr, 0, none⟩ = some (.int .i64 0) := (blk_cell BR.out 0).trans rfl; have hr1 : w6.cell? ⟨gr, 1, none⟩ = some (.int .i64 0) := (blk_cell BR.out 1).trans rfl; have hf0 := blk_frozen BR.out 0; have hf1 := blk_frozen BR.out 1) | ((with_reducible refine gate_dst (N := 25) rfl ?_); refine bx_ (N := 25) (cs := #[.int .i64 n, .slice (some ad) l0_1.length c0_1]) (t := 87) ?_; intro gx hg w7 hbox hb; have n0_ := Aside0.mk (below_step HB.out hb); have n1_ := Aside0.mk (blk_below BR.out hb); have n2_ := Aside0.mk hbox; have NX := Aside0.mk ((by rw [hg]; exact Nat.ne_of_gt (blk_lt BR.out)) : gx ≠ gr); clear HB BR BZ hz0 hz1 hr0 hr1 hf0 hf1 hb hbox hg; have HB := n0_; have BR := n1_; have BX := n2_; clear n0_ n1_ n2_))
  have n_ := a_ (Aside0.mk HB.out.drew) (a_ (Aside0.mk (blk_drew BR.out)) (Aside0.mk (blk_drew BX.out)))
  clear HB BR BX
  obtain ⟨HB, BR, BX⟩ := n_
  refine start_ (n := 22) (S := fun w' => w'.cell? ⟨gx, 1, none⟩ = some (.slice (some ad) l0_1.length c0_1) ∧ w'.cell? (ad.add p1) = some (.int .i64 (rd l0_1 (p1 : Int))) ∧ w'.cell? (ad.add p2) = some (.int .i64 (rd l0_1 (p2 : Int)))) (ds := []) #[false, false, false, false, false, false, false, false, false, false, false, false, false, false, false, false, false, false, false, false, false, false] (by kernel_rfl) rfl rfl ⟨(blk_cell BX.out 1).trans rfl, HA1.out _ HB.out, HA2.out _ HB.out⟩ (fun hHeld => ?_); refine with_tabW zone_Itv.tab7 zone_Itv.bits7 (fun HT_ HW_ => ?_)
  generalize hwd_ : w7.drew = wd at HB BR BX hHeld ⊢
  clear hwd_
  refine pu_ 0 (some 26) ?_
  refine pu_ 1 (some 27) ?_
  refine pu_ 2 (some 28) ?_
  refine pu_ 4 (some 30) ?_
  refine pu_ 5 (some 31) ?_
  refine pu_ 10 (some 36) ?_
  refine pu_ 11 (some 37) ?_
  refine pu_ 12 (some 38) ?_
  refine pu_ 14 (some 40) ?_
  refine pu_ 15 (some 41) ?_
  refine take_ (i := 3) (N := some 29) (v := ?_) (a' := ?_) #[true, true, true, true, true, true, false, false, false, false, true, true, true, false, true, true, false, false, false, false, false, false] rfl rfl (take_ofW HT_.out HW_.out (by kernel_rfl)) (fun _ _ _ h => h) (Or.inl ⟨by rfl, ?_⟩) hHeld ?_ ?_
  rotate_left
  · rintro w' ⟨s0, s1, s2⟩
    go_simp
    with_reducible rfl
  rotate_left
  · exact AP_
  refine take_ (i := 13) (N := some 39) (v := ?_) (a' := ?_) #[true, true, true, true, true, true, false, false, false, false, true, true, true, true, true, true, false, false, false, false, false, false] rfl rfl (take_ofW HT_.out HW_.out (by kernel_rfl)) (fun _ _ _ h => h) (Or.inl ⟨by rfl, ?_⟩) hHeld ?_ ?_
  rotate_left
  · rintro w' ⟨s0, s1, s2⟩
    go_simp
    with_reducible rfl
  rotate_left
  · exact AP_
  refine on_ 6 (some 32) (fun K hK => ?_)
  refine goes_ Try.func74 (by kernel_rfl) rfl #[.pointer (some ⟨gx, 0, none⟩), .int .i64 ((0 : Nat) : Int), .int .i64 (i : Int)] (by rfl) rfl rfl MP_ ?_
  with_reducible refine (mat_atA n 0 i HN.out (Nat.zero_le _) HI.out gx (some ad) l0_1.length c0_1 p1 HP1.out _ BX.out).mono ?_
  rintro e_ w16 ⟨rfl, hb⟩
  refine ⟨_, rfl, ?_⟩
  have n_ := a_ (Aside0.mk (below_step HB.out hb)) (a_ (Aside0.mk (blk_below BR.out hb)) (Aside0.mk (blk_below BX.out hb)))
  clear HB BR BX hb
  obtain ⟨HB, BR, BX⟩ := n_
  refine hK.out _ _ ⟨(blk_cell BX.out 1).trans rfl, HA1.out _ HB.out, HA2.out _ HB.out⟩ (fun hHeld => ?_)
  clear hK K
  refine nm_ ?_
  refine pu_ 7 (some 33) ?_
  refine take_ (i := 8) (N := some 34) (v := ?_) (a' := ?_) #[true, true, true, true, true, true, true, true, true, false, true, true, true, true, true, true, false, false, false, false, false, false] rfl rfl (take_ofW HT_.out HW_.out (by kernel_rfl)) (fun _ _ _ h => h) (Or.inl ⟨by rfl, ?_⟩) hHeld ?_ ?_
  rotate_left
  · rintro w' ⟨s0, s1, s2⟩
    go_simp
    with_reducible rfl
  rotate_left
  · exact AP_
  refine on_ 9 (some 35) (fun K hK => ?_)
  refine goes_ Try.func73 (by kernel_rfl) rfl #[.int .i64 (rd l0_1 (p1 : Int))] (by rfl) rfl rfl MP_ ?_
  with_reducible refine (val_Neg.calls _ t _ HT.out).mono ?_
  rintro e_ w19 ⟨rfl, hb⟩
  refine ⟨_, rfl, ?_⟩
  have n_ := a_ (Aside0.mk (below_step HB.out hb)) (a_ (Aside0.mk (blk_below BR.out hb)) (Aside0.mk (blk_below BX.out hb)))
  clear HB BR BX hb
  obtain ⟨HB, BR, BX⟩ := n_
  refine hK.out _ _ ⟨(blk_cell BX.out 1).trans rfl, HA1.out _ HB.out, HA2.out _ HB.out⟩ (fun hHeld => ?_)
  clear hK K
  refine nm_ ?_
  refine on_ 16 (some 42) (fun K hK => ?_)
  refine goes_ Try.func74 (by kernel_rfl) rfl #[.pointer (some ⟨gx, 0, none⟩), .int .i64 (i : Int), .int .i64 ((0 : Nat) : Int)] (by rfl) rfl rfl MP_ ?_
  with_reducible refine (mat_atA n i 0 HN.out HI.out (Nat.zero_le _) gx (some ad) l0_1.length c0_1 p2 HP2.out _ BX.out).mono ?_
  rintro e_ w26 ⟨rfl, hb⟩
  refine ⟨_, rfl, ?_⟩
  have n_ := a_ (Aside0.mk (below_step HB.out hb)) (a_ (Aside0.mk (blk_below BR.out hb)) (Aside0.mk (blk_below BX.out hb)))
  clear HB BR BX hb
  obtain ⟨HB, BR, BX⟩ := n_
  refine hK.out _ _ ⟨(blk_cell BX.out 1).trans rfl, HA1.out _ HB.out, HA2.out _ HB.out⟩ (fun hHeld => ?_)
  clear hK K
  refine nm_ ?_
  refine pu_ 17 (some 43) ?_
  refine take_ (i := 18) (N := some 44) (v := ?_) (a' := ?_) #[true, true, true, true, true, true, true, true, true, true, true, true, true, true, true, true, true, true, true, false, false, false] rfl rfl (take_ofW HT_.out HW_.out (by kernel_rfl)) (fun _ _ _ h => h) (Or.inl ⟨by rfl, ?_⟩) hHeld ?_ ?_
  rotate_left
  · rintro w' ⟨s0, s1, s2⟩
    go_simp
    with_reducible rfl
  rotate_left
  · exact AP_
  refine on_ 19 (some 45) (fun K hK => ?_)
  refine goes_ Try.func72 (by kernel_rfl) rfl #[.int .i64 t, .int .i64 (rd l0_1 (p2 : Int))] (by rfl) rfl rfl MP_ ?_
  with_reducible refine (itv_Of.calls _ _ q1 q2 _ HQ.out).mono ?_
  rintro e_ w29 ⟨rfl, hb⟩
  refine ⟨_, rfl, ?_⟩
  have n_ := a_ (Aside0.mk (below_step HB.out hb)) (a_ (Aside0.mk (blk_below BR.out hb)) (Aside0.mk (blk_below BX.out hb)))
  clear HB BR BX hb
  obtain ⟨HB, BR, BX⟩ := n_
  have hr0 : w29.cell? ⟨gr, 0, none⟩ = some (.int .i64 0) := (blk_cell BR.out 0).trans rfl
  have hr1 : w29.cell? ⟨gr, 1, none⟩ = some (.int .i64 0) := (blk_cell BR.out 1).trans rfl
  have hf0 := blk_frozen BR.out 0
  have hf1 := blk_frozen BR.out 1
  refine hK.out _ _ ⟨(blk_cell BX.out 1).trans rfl, HA1.out _ HB.out, HA2.out _ HB.out⟩ (fun hHeld => ?_)
  clear hK K
  refine nm_ ?_
  refine on_ 20 (none) (fun K hK => ?_)
  refine skip_ (w1 := ?_) (by rfl) rfl ?_ ?_
  rotate_left
  · go_simp
    rfl
  refine hK.out _ _ ⟨(blk_cell (blk_far (blk_far BX.out NX.out _) NX.out _) 1).trans rfl, HA1.out _ (below_set (below_set HB.out GR.out) GR.out), HA2.out _ (below_set (below_set HB.out GR.out) GR.out)⟩ (fun hHeld => ?_)
  clear hK K
  refine pu_ 21 (some 5) ?_
  refine done_ (done_of HT_.out (by kernel_rfl)) ?_
  go_wp2
  refine bodyPost_ret (results_ct rfl _ _ gr 39 #[.int .i64 q1, .int .i64 q2] (0, 0) _ rfl (by refine blk_put (cs := #[.int .i64 q1, .int .i64 0]) ?_ 1 _ rfl; refine blk_put (cs := #[.int .i64 0, .int .i64 0]) ?_ 0 _ rfl; exact BR.out) Try.underlying39 rfl (by kernel_rfl)) rfl ?_
  exact ⟨rfl, below_set (below_set HB.out GR.out) GR.out⟩
end Go.Proofs.Ytgeemdpflcefkaa.Z
