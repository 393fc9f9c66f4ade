-- WRITTEN BY this session's program wip/ext.py, in print.py's manner
import Derived.Test.YtgeemdpflcefkaaZx0
import Derived.Test.YtgeemdpflcefkaaZx8
import Derived.Test.YtgeemdpflcefkaaZx9
import Derived.Test.YtgeemdpflcefkaaZx12
import Derived.Test.YtgeemdpflcefkaaZx13
import Derived.Test.YtgeemdpflcefkaaZx18
import Derived.Test.YtgeemdpflcefkaaZx31
namespace Go.Proofs.Ytgeemdpflcefkaa.Z
open Go.RowKit Go.Proofs.YtgeemdpflcefkaaW.PrintWords Go.Proofs.YtgeemdpflcefkaaW.PrintLast Go.Proofs.YtgeemdpflcefkaaW.PrintMore
attribute [local go_sem] max2_int min2_int max_two min_two max_three min_three max_four min_four   -- for this text's walks alone
set_option linter.unusedVariables false
set_option linter.unusedSimpArgs false

/-! ### ext zone_Box: function 49 -/

/-- The intervals' bounds, put one behind the other. -/
def boxF (n : Nat) : Nat → List S39 → List Int → Option (List Int)
  | _, [], zs => some zs
  | i, v :: vs, zs => (itv_Of.f v.f0 v.f1).bind fun q => (val_Neg.f q.1).bind fun t => boxF n (i + 1) vs (limitL n (limitL n zs (i + 1) 0 q.2) 0 (i + 1) t)
def zone_Box.f (k : Nat) (l0 : List S39) : Option (Int × List Int × Int) := (dbm_All.f (l0.length : Int)).bind fun r => if r.2.2 = 0 then (if r.1 = (l0.length : Int) ∧ l0.length ≤ 8 ∧ r.2.1.length = (l0.length + 1) * (l0.length + 1) then (boxF l0.length 0 l0 r.2.1).bind fun zs => dbm_Close.f k (l0.length : Int) zs else none) else some (0, [], r.2.2)
theorem zone_Box.mono : ∀ a0 k, LeO (zone_Box.f k a0) (zone_Box.f (k + 1) a0) := by
  intro a0 k
  unfold zone_Box.f
  exact LeO.bind (LeO.refl _) (fun e => LeO.ite (LeO.ite (LeO.bind (LeO.refl _) (fun zs => dbm_Close.mono _ _ k)) (LeO.refl _)) (LeO.refl _))
theorem limit_at (n i j : Nat) (hn : n ≤ 8) (hi : i ≤ n) (hj : j ≤ n) (iv jv : Int) (hiv : iv = i) (hjv : jv = j) (c : Int) (g b cap base ln : Nat) (ok : Nat → Prop) (xs : List Int) (hln : xs.length = ln) (hxs : ln = (n + 1) * (n + 1)) (w : World)
    (hbk : w.heap[g]? = some (.cells #[.int .i64 n, .slice (some ⟨b, 0, none⟩) ln cap] 87 (0, 0))) (hR : Kd.R (Kd.int .i64) 3 w base ok (.slice (some ⟨b, 0, none⟩) ln cap) xs) :
    Calls Try.prog 66 #[.pointer (some ⟨g, 0, none⟩), .int .i64 iv, .int .i64 jv, .int .i64 c] w fun e w' => e = .returned (.tuple #[]) ∧ Kd.R (Kd.int .i64) 3 w' base ok (.slice (some ⟨b, 0, none⟩) ln cap) (limitL n xs i j c) ∧
      w'.heap[g]? = some (.cells #[.int .i64 n, .slice (some ⟨b, 0, none⟩) ln cap] 87 (0, 0)) ∧ Kept w w' (fun k => k = b) ∧ Below b w w' := by
  subst hln hiv hjv
  exact limit_calls n i j hn hi hj c g b cap base ok xs hxs w hbk hR
theorem blk_kept_ {w w' : World} {b g : Nat} {o : Obj} (h : w.heap[g]? = some o) (hk : Kept w w' (fun k => k = b)) (hne : g ≠ b) : w'.heap[g]? = some o := (hk.2 g (blk_lt h) hne).trans h
theorem below_row_ {B b : Nat} {w w1 w2 : World} (h : Below B w w1) (hB : B ≤ b) (hw : Below b w1 w2) : Below B w w2 := h.trans ⟨hw.os, hw.tape, hw.output, hw.size, fun i hi => hw.block i (Nat.lt_of_lt_of_le hi hB)⟩
def zone_Box.T12 : Bool × List (List Nat × List Nat) := (true, [([], []), ([0], [0]), ([1], [1]), ([2], [2]), ([], []), ([4], [4]), ([5], [5]), ([6], [6]), ([3, 7], [3, 7]), ([8], [8]), ([8], [8]), ([9, 8, 0, 1, 2, 3, 4, 5, 6, 7, 8, 9, 10], [9]), ([10, 11, 0, 1, 2, 3, 4, 5, 6, 7, 8, 9, 10, 11], [10])])
def zone_Box.B12 : List Nat := [0, 1, 3, 7, 0, 16, 48, 112, 255, 511, 511, 2047, 4095]
theorem zone_Box.tab12 : rtab .any (opsOf Try.f49 12) = zone_Box.T12 := by kernel_rfl
theorem zone_Box.bits12 : waitsOk zone_Box.T12.2 zone_Box.B12 = true := by kernel_rfl
set_option maxHeartbeats 8000000 in
set_option maxRecDepth 100000 in
theorem zone_Box.calls (kc : Nat) (A0 : Option Addr) (c0 : Nat) (l0 : List S39) (r1 : Int) (r2 : List Int) (r3 : Int) (w : World) (hr0 : Kd.C k39 w A0 l0.length l0) (hc0 : l0.length ≤ c0) (h : zone_Box.f kc l0 = some (r1, r2, r3)) :
    Calls Try.prog 49 #[.slice A0 l0.length c0] w fun e w' => ∃ v1_ : Value, e = .returned (.tuple #[.agg #[.int .i64 r1, v1_], .int .i64 r3]) ∧ Kd.R (Kd.int .i64) 3 w' w.heap.size (fun _ => True) v1_ r2 ∧ Below w.heap.size w w' := by
  have hu24 := Try.underlying24
  have hu39 := Try.underlying39
  have HC := Aside0.mk hr0
  have HC0 := Aside0.mk hc0
  have HB := Aside0.mk (Below.refl w.heap.size w)
  obtain ⟨⟨q1, q2, q3⟩, hq, h⟩ := Option.bind_eq_some_iff.1 h
  have HQ := Aside0.mk hq
  clear hr0 hc0 hq
  by_cases c3 : q3 = 0
  rotate_left
  · rw [if_neg c3] at h
    obtain ⟨rfl, rfl, rfl⟩ : 0 = r1 ∧ [] = r2 ∧ q3 = r3 := by simpa using h
    clear h
    have c0b0 : (q3 == 0) = false := beq_eq_false_iff_ne.mpr c3
    have c0b1 : (q3 != 0) = true := bne_iff_ne.mpr c3
    clear c3
    go_enter Try.func49, Try.ntmps49
    go_wp2_with (first | ((with_reducible refine gate_dst (N := 2) rfl ?_); refine bx_ (N := 2) (cs := #[.int .i64 0, .slice none 0 0]) (t := 24) ?_; intro gr hg w4 hbox hb; have n_ := a_ (Aside0.mk (below_step HB.out hb)) (a_ (Aside0.mk hbox) (Aside0.mk (by rw [hg]; exact (below_size HB.out) : w.heap.size ≤ gr))); clear HB; obtain ⟨HB, BR, GR⟩ := n_; clear hb hbox hg) | ((with_reducible refine gate_dst (N := 12) rfl ?_); (with_reducible refine gate_callee (f := 87) rfl ?_); refine goesL_ (some 12) rfl rfl Try.func87 (by kernel_rfl) rfl #[.int .i64 l0.length] rfl (by (try simp only [List.map_toArray, List.map_cons, List.map_nil]); first | done | rfl) ?_; (with_reducible refine (dbm_All.calls _ q1 q2 q3 _ HQ.out).mono ?_); rintro e_ w5 ⟨v1, rfl, hr, hb⟩; refine ⟨_, rfl, ?_⟩; obtain ⟨A1, c1, rfl⟩ := Kd.R_slice hr; have n_ := a_ (Aside0.mk (below_step HB.out hb)) (Aside0.mk (blk_below BR.out hb)); clear HB BR hr hb; obtain ⟨HB, BR⟩ := n_) | ((with_reducible refine gate_dst (N := 4) rfl ?_); refine bx_ (N := 4) (cs := #[.int .i64 0, .slice none 0 0]) (t := 24) ?_; intro gz hg w6 hbox hb; have n0_ := Aside0.mk (below_step HB.out hb); have n1_ := Aside0.mk (hbox); have n2_ := Aside0.mk ((by rw [hg]; exact (below_size HB.out) : w.heap.size ≤ gz)); have n3_ := Aside0.mk (blk_below BR.out hb); have NRZ := Aside0.mk ((by rw [hg]; exact Nat.ne_of_lt (blk_lt BR.out)) : gr ≠ gz); clear HB BR; have HB := n0_; have BZ := n1_; have GZ := n2_; have BR := n3_; clear n0_ n1_ n2_ n3_; clear hb hbox hg; have hz0 : w6.cell? ⟨gz, 0, none⟩ = some (.int .i64 0) := (blk_cell BZ.out 0).trans rfl; have hz1 : w6.cell? ⟨gz, 1, none⟩ = some (.slice none 0 0) := (blk_cell BZ.out 1).trans rfl; have hfz0 := blk_frozen BZ.out 0; have hfz1 := blk_frozen BZ.out 1; have hr0 : w6.cell? ⟨gr, 0, none⟩ = some (.int .i64 0) := (blk_cell BR.out 0).trans rfl; have hr1 : w6.cell? ⟨gr, 1, none⟩ = some (.slice none 0 0) := (blk_cell BR.out 1).trans rfl; have hf0 := blk_frozen BR.out 0; have hf1 := blk_frozen BR.out 1; have hne := NRZ.out; have hne2 := NRZ.out.symm))
    refine bodyPost_ret (results_ct rfl _ _ gr 24 #[.int .i64 0, .slice none 0 0] (0, 0) _ rfl (by refine blk_put (cs := #[.int .i64 0, .slice none 0 0]) ?_ 1 _ rfl; refine blk_put (cs := #[.int .i64 0, .slice none 0 0]) ?_ 0 _ rfl; exact blk_far (blk_far BR.out NRZ.out _) NRZ.out _) Try.underlying24 rfl (by kernel_rfl)) rfl ?_
    exact ⟨_, rfl, Kd.R_nil _ _ _ _ _, below_set (below_set (below_set (below_set HB.out GZ.out) GZ.out) GR.out) GR.out⟩

  subst c3
  rw [if_pos rfl] at h
  by_cases c4 : q1 = (l0.length : Int) ∧ l0.length ≤ 8 ∧ q2.length = (l0.length + 1) * (l0.length + 1)
  case neg =>
    rw [if_neg c4] at h
    cases h
  rw [if_pos c4] at h
  obtain ⟨rfl, hn8, hlen⟩ := c4
  obtain ⟨ze, hbox, hcl⟩ := Option.bind_eq_some_iff.1 h
  obtain ⟨n, hnn⟩ : ∃ n : Nat, n = l0.length := ⟨_, rfl⟩
  obtain ⟨ln, hln⟩ : ∃ ln : Nat, ln = q2.length := ⟨_, rfl⟩
  rw [← hnn] at hn8 hlen hbox hcl HQ
  rw [← hln] at hlen
  have hl0 : 0 < ln := by
    rw [hlen]
    exact Nat.mul_pos (Nat.succ_pos _) (Nat.succ_pos _)
  have HN := Aside0.mk hnn
  have HN8 := Aside0.mk hn8
  have HLN := Aside0.mk hlen
  have HL0 := Aside0.mk hl0
  have HLQ := Aside0.mk hln
  have HBOX := Aside0.mk hbox
  have HCL := Aside0.mk hcl
  clear h hn8 hlen hl0 hln hbox hcl
  rw [← hnn] at HC HC0 ⊢
  clear hnn
  go_enter Try.func49, Try.ntmps49
  go_wp2_with (first | ((with_reducible refine gate_dst (N := 2) rfl ?_); refine bx_ (N := 2) (cs := #[.int .i64 0, .slice none 0 0]) (t := 24) ?_; intro gr hg w4 hbox hb; have n_ := a_ (Aside0.mk (below_step HB.out hb)) (a_ (Aside0.mk hbox) (Aside0.mk (by rw [hg]; exact (below_size HB.out) : w.heap.size ≤ gr))); clear HB; obtain ⟨HB, BR, GR⟩ := n_; clear hb hbox hg) | ((with_reducible refine gate_dst (N := 12) rfl ?_); (with_reducible refine gate_callee (f := 87) rfl ?_); refine goesL_ (some 12) rfl rfl Try.func87 (by kernel_rfl) rfl #[.int .i64 n] rfl (by (try simp only [List.map_toArray, List.map_cons, List.map_nil]); first | done | rfl) ?_; (with_reducible refine (dbm_All.calls n n q2 0 _ HQ.out).mono ?_); rintro e_ w5 ⟨v1, rfl, hr, hb⟩; refine ⟨_, rfl, ?_⟩; obtain ⟨b, cap, rfl, hb1, hb2, cells, hcells⟩ := Kd.R_form hr (by rw [← HLQ.out]; exact HL0.out); rw [← HLQ.out] at hr; have LWB := Aside0.mk (Nat.le_trans (below_size HB.out) hb1); have NRB := Aside0.mk (Nat.ne_of_lt (Nat.lt_of_lt_of_le (blk_lt BR.out) hb1)); have n0_ := Aside0.mk (below_step HB.out hb); have n1_ := Aside0.mk (blk_below BR.out hb); have HR := Aside0.mk (Kd.R_lower (Kd.R_reok (ok := fun k => k = b) rfl hr (fun k hk => (Option.some.inj hk).symm)) (below_size HB.out)); clear HB BR hr hb hb1 hb2 hcells; have HB := n0_; have BR := n1_; clear n0_ n1_; (try rw [← HLQ.out])) | ((with_reducible refine gate_dst (N := 4) rfl ?_); refine bx_ (N := 4) (cs := #[.int .i64 0, .slice none 0 0]) (t := 24) ?_; intro gz hg w6 hbox hb; have n0_ := Aside0.mk (below_step HB.out hb); have n1_ := Aside0.mk (hbox); have n2_ := Aside0.mk ((by rw [hg]; exact (below_size HB.out) : w.heap.size ≤ gz)); have n3_ := Aside0.mk (blk_below BR.out hb); have NZB := Aside0.mk ((by rw [hg]; exact Nat.ne_of_gt (Kd.R_lt HR.out b rfl)) : gz ≠ b); have NRZ := Aside0.mk ((by rw [hg]; exact Nat.ne_of_lt (blk_lt BR.out)) : gr ≠ gz); have n4_ := Aside0.mk (Kd.R_below HR.out hb); clear HB BR HR; have HB := n0_; have BZ := n1_; have GZ := n2_; have BR := n3_; have HR := n4_; clear n0_ n1_ n2_ n3_ n4_; clear hb hbox hg; have hz0 : w6.cell? ⟨gz, 0, none⟩ = some (.int .i64 0) := (blk_cell BZ.out 0).trans rfl; have hz1 : w6.cell? ⟨gz, 1, none⟩ = some (.slice none 0 0) := (blk_cell BZ.out 1).trans rfl; have hfz0 := blk_frozen BZ.out 0; have hfz1 := blk_frozen BZ.out 1) | ((with_reducible refine gate_dst (N := 24) rfl ?_); refine bx_ (N := 24) (cs := #[.int .i64 n, .slice (some ⟨b, 0, none⟩) ln cap]) (t := 87) ?_; intro gx hg w7 hbox hb; have HB' := below_set (g := gz) (j := 1) (v := .slice (some ⟨b, 0, none⟩) ln cap) (below_set (g := gz) (j := 0) (v := .int .i64 n) HB.out GZ.out) GZ.out; have n0_ := Aside0.mk (below_step HB' hb); have n1_ := Aside0.mk (hbox); have BR' := blk_far (p := ⟨gz, 1, none⟩) (blk_far (p := ⟨gz, 0, none⟩) BR.out NRZ.out (.int .i64 n)) NRZ.out (.slice (some ⟨b, 0, none⟩) ln cap); have n2_ := Aside0.mk ((by rw [hg]; exact Nat.ne_of_gt (blk_lt BR')) : gx ≠ gr); have HR' := Kd.R_far (p := ⟨gz, 1, none⟩) (Kd.R_far (p := ⟨gz, 0, none⟩) HR.out (fun k hk => by subst hk; exact NZB.out.symm) (.int .i64 n)) (fun k hk => by subst hk; exact NZB.out.symm) (.slice (some ⟨b, 0, none⟩) ln cap); have n5_ := Aside0.mk ((by rw [hg]; exact Nat.ne_of_gt (Kd.R_lt HR' b rfl)) : gx ≠ b); have n3_ := Aside0.mk (blk_below BR' hb); have n4_ := Aside0.mk (Kd.R_below HR' hb); clear hz0 hz1 hfz0 hfz1 HB' BR' HR' HB BR HR BZ hb hbox hg; have HB := n0_; have BX := n1_; have NXR := n2_; have BR := n3_; have HR := n4_; have NXB := n5_; clear n0_ n1_ n2_ n3_ n4_ n5_))
  go_loopg [27] (n + 1) (fun gg v27 wr => ∃ (k : Nat) (zs : List Int), k ≤ n ∧ v27 = .int .i64 k ∧ Aside0 (n - k ≤ gg) ∧ Aside0 (wr.heap[gx]? = some (.cells #[.int .i64 n, .slice (some ⟨b, 0, none⟩) ln cap] 87 (0, 0))) ∧ Aside0 (wr.heap[gr]? = some (.cells #[.int .i64 0, .slice none 0 0] 24 (0, 0))) ∧ Aside0 (Below w.heap.size w wr) ∧ Aside0 (Kd.R (Kd.int .i64) 3 wr w.heap.size (fun k_ => k_ = b) (.slice (some ⟨b, 0, none⟩) ln cap) zs) ∧ Aside0 (zs.length = ln) ∧ Aside0 (boxF n k (l0.drop k) zs = some ze))
  case atStart => exact ⟨0, q2, Nat.zero_le _, rfl, ⟨by omega⟩, BX, BR, HB, HR, ⟨HLQ.out.symm⟩, HBOX⟩
  case round =>
    clear BX BR HB HR HBOX
    obtain ⟨k, zs, hk, rfl, HM, BX, BR, HB, HR, HZL, HBOX⟩ := hrel
    by_cases hlt : k < n
    · have hltz : (k : Int) < (n : Int) := Int.ofNat_lt.2 hlt
      have hk0 : (0 : Int) ≤ (k : Int) := Int.natCast_nonneg _
      have hlt0 : k < l0.length := by rw [← HN.out]; exact hlt
      obtain ⟨ad, rfl, he1, he2⟩ := at_T39 HC.out (k : Int) hk0 hltz
      rw [Int.toNat_natCast] at he1 he2
      have HE1 : Aside0 (∀ w', Below w.heap.size w w' → w'.cell? (ad.add (k * 2)) = some (.int .i64 (rd_T39 l0 (k : Int)).f0)) := ⟨fun w' hb => (hb.cell (cell_lt_ he1)).trans he1⟩
      have HE2 : Aside0 (∀ w', Below w.heap.size w w' → w'.cell? ⟨(ad.add (k * 2)).block, (ad.add (k * 2)).off + 1, none⟩ = some (.int .i64 (rd_T39 l0 (k : Int)).f1)) := ⟨fun w' hb => (hb.cell (cell_lt_ he2)).trans he2⟩
      clear he1 he2
      have hbox := HBOX.out
      rw [List.drop_eq_getElem_cons hlt0] at hbox
      have hrd : rd_T39 l0 (k : Int) = l0[k] := by
        unfold rd_T39
        rw [Int.toNat_natCast, List.getD_eq_getElem?_getD, List.getElem?_eq_getElem hlt0]
        rfl
      simp only [boxF] at hbox
      rw [← hrd] at hbox
      obtain ⟨⟨u1, u2⟩, hu, hbox⟩ := Option.bind_eq_some_iff.1 hbox
      obtain ⟨u3, hu3, hbox⟩ := Option.bind_eq_some_iff.1 hbox
      have HU := Aside0.mk hu
      have HU3 := Aside0.mk hu3
      have HBX := Aside0.mk hbox
      have HK1 : Aside0 (k + 1 ≤ n) := ⟨hlt⟩
      have HW1 : Aside0 (wrap64 ((k : Int) + 1) = ((k + 1 : Nat) : Int)) := ⟨by have := HN8.out; unfold wrap64; omega⟩
      have HZL2 : Aside0 ((limitL n zs (k + 1) 0 u2).length = ln) := ⟨by rw [limitL_length]; exact HZL.out⟩
      clear hu hu3 hbox hrd HBOX hlt0
      have hc1 := HE1.out wr HB.out
      have hc2 := HE2.out wr HB.out
      go_wp2_with (first | ((with_reducible refine gate_dst (N := 8) rfl ?_); refine bx_ (N := 8) (cs := #[.int .i64 0, .int .i64 0]) (t := 39) ?_; intro gv hg w7 hbox hb; have n0_ := Aside0.mk (below_step HB.out hb); have BV := Aside0.mk (hbox); have GV := Aside0.mk ((by rw [hg]; exact (below_size HB.out) : w.heap.size ≤ gv)); have NVR := Aside0.mk ((by rw [hg]; exact Nat.ne_of_gt (blk_lt BR.out)) : gv ≠ gr); have NVX := Aside0.mk ((by rw [hg]; exact Nat.ne_of_gt (blk_lt BX.out)) : gv ≠ gx); have NVB := Aside0.mk ((by rw [hg]; exact Nat.ne_of_gt (Kd.R_lt HR.out b rfl)) : gv ≠ b); have n1_ := Aside0.mk (blk_below BR.out hb); have n2_ := Aside0.mk (blk_below BX.out hb); have n3_ := Aside0.mk (Kd.R_below HR.out hb); clear HB BR BX HR hb hbox hg hc1 hc2; have HB := n0_; have BR := n1_; have BX := n2_; have HR := n3_; clear n0_ n1_ n2_ n3_; have hc1 := HE1.out w7 HB.out; have hc2 := HE2.out w7 HB.out; have hv0 : w7.cell? ⟨gv, 0, none⟩ = some (.int .i64 0) := (blk_cell BV.out 0).trans rfl; have hv1 : w7.cell? ⟨gv, 1, none⟩ = some (.int .i64 0) := (blk_cell BV.out 1).trans rfl; have hfv0 := blk_frozen BV.out 0; have hfv1 := blk_frozen BV.out 1) | ((with_reducible refine gate_dst (N := 36) rfl ?_); (with_reducible refine gate_callee (f := 72) rfl ?_); refine goesL_ (some 36) rfl rfl Try.func72 (by kernel_rfl) rfl #[.int .i64 (rd_T39 l0 (k : Int)).f0, .int .i64 (rd_T39 l0 (k : Int)).f1] rfl (by (try simp only [List.map_toArray, List.map_cons, List.map_nil]); first | done | rfl) ?_; (with_reducible refine (itv_Of.calls _ _ u1 u2 _ HU.out).mono ?_); rintro e_ w8 ⟨rfl, hb⟩; refine ⟨_, rfl, ?_⟩; have HB' := below_set (g := gv) (j := 1) (v := .int .i64 (rd_T39 l0 (k : Int)).f1) (below_set (g := gv) (j := 0) (v := .int .i64 (rd_T39 l0 (k : Int)).f0) HB.out GV.out) GV.out; have BR' := blk_far (p := ⟨gv, 1, none⟩) (blk_far (p := ⟨gv, 0, none⟩) BR.out NVR.out.symm (.int .i64 (rd_T39 l0 (k : Int)).f0)) NVR.out.symm (.int .i64 (rd_T39 l0 (k : Int)).f1); have BX' := blk_far (p := ⟨gv, 1, none⟩) (blk_far (p := ⟨gv, 0, none⟩) BX.out NVX.out.symm (.int .i64 (rd_T39 l0 (k : Int)).f0)) NVX.out.symm (.int .i64 (rd_T39 l0 (k : Int)).f1); have HR' := Kd.R_far (p := ⟨gv, 1, none⟩) (Kd.R_far (p := ⟨gv, 0, none⟩) HR.out (fun k hk => by subst hk; exact NVB.out.symm) (.int .i64 (rd_T39 l0 (k : Int)).f0)) (fun k hk => by subst hk; exact NVB.out.symm) (.int .i64 (rd_T39 l0 (k : Int)).f1); have BV' := blk_put (cs := #[.int .i64 (rd_T39 l0 (k : Int)).f0, .int .i64 0]) (cs' := #[.int .i64 (rd_T39 l0 (k : Int)).f0, .int .i64 (rd_T39 l0 (k : Int)).f1]) (blk_put (cs := #[.int .i64 0, .int .i64 0]) (cs' := #[.int .i64 (rd_T39 l0 (k : Int)).f0, .int .i64 0]) BV.out 0 (.int .i64 (rd_T39 l0 (k : Int)).f0) rfl) 1 (.int .i64 (rd_T39 l0 (k : Int)).f1) rfl; have n0_ := Aside0.mk (below_step HB' hb); have n1_ := Aside0.mk (blk_below BR' hb); have n2_ := Aside0.mk (blk_below BX' hb); have n3_ := Aside0.mk (Kd.R_below HR' hb); have n4_ := Aside0.mk (blk_below BV' hb); clear HB' BR' BX' HR' BV' HB BR BX HR BV hb hv0 hv1 hfv0 hfv1 hc1 hc2; have HB := n0_; have BR := n1_; have BX := n2_; have HR := n3_; have BV := n4_; clear n0_ n1_ n2_ n3_ n4_; have hv0 : w8.cell? ⟨gv, 0, none⟩ = some (.int .i64 (rd_T39 l0 (k : Int)).f0) := (blk_cell BV.out 0).trans rfl; have hv1 : w8.cell? ⟨gv, 1, none⟩ = some (.int .i64 (rd_T39 l0 (k : Int)).f1) := (blk_cell BV.out 1).trans rfl; have hfv0 := blk_frozen BV.out 0; have hfv1 := blk_frozen BV.out 1) | ((with_reducible refine gate_dst (N := 42) rfl ?_); (with_reducible refine gate_callee (f := 66) rfl ?_); refine goesL_ (some 42) rfl rfl Try.func66 (by kernel_rfl) rfl #[.pointer (some ⟨gx, 0, none⟩), .int .i64 (wrap64 ((k : Int) + 1)), .int .i64 0, .int .i64 u2] rfl (by (try simp only [List.map_toArray, List.map_cons, List.map_nil]); first | done | rfl) ?_; have HB' := below_set (g := gv) (j := 1) (v := .int .i64 u2) (below_set (g := gv) (j := 0) (v := .int .i64 u1) HB.out GV.out) GV.out; have BR' := blk_far (p := ⟨gv, 1, none⟩) (blk_far (p := ⟨gv, 0, none⟩) BR.out NVR.out.symm (.int .i64 u1)) NVR.out.symm (.int .i64 u2); have BX' := blk_far (p := ⟨gv, 1, none⟩) (blk_far (p := ⟨gv, 0, none⟩) BX.out NVX.out.symm (.int .i64 u1)) NVX.out.symm (.int .i64 u2); have HR' := Kd.R_far (p := ⟨gv, 1, none⟩) (Kd.R_far (p := ⟨gv, 0, none⟩) HR.out (fun k hk => by subst hk; exact NVB.out.symm) (.int .i64 u1)) (fun k hk => by subst hk; exact NVB.out.symm) (.int .i64 u2); have BV' := blk_put (cs := #[.int .i64 u1, .int .i64 (rd_T39 l0 (k : Int)).f1]) (cs' := #[.int .i64 u1, .int .i64 u2]) (blk_put (cs := #[.int .i64 (rd_T39 l0 (k : Int)).f0, .int .i64 (rd_T39 l0 (k : Int)).f1]) (cs' := #[.int .i64 u1, .int .i64 (rd_T39 l0 (k : Int)).f1]) BV.out 0 (.int .i64 u1) rfl) 1 (.int .i64 u2) rfl; (with_reducible refine (limit_at n (k + 1) 0 HN8.out HK1.out (Nat.zero_le _) _ 0 HW1.out rfl u2 gx b cap w.heap.size ln _ zs HZL.out HLN.out _ BX' HR').mono ?_); rintro e_ w9 ⟨rfl, hr, hbx, hk, hw⟩; refine ⟨_, rfl, ?_⟩; have n0_ := Aside0.mk (below_row_ HB' LWB.out hw); have n1_ := Aside0.mk (blk_kept_ BR' hk NRB.out); have n2_ := Aside0.mk hbx; have n3_ := Aside0.mk hr; have n4_ := Aside0.mk (blk_kept_ BV' hk NVB.out); clear HB' BR' BX' HR' BV' HB BR BX HR BV hr hbx hk hw hv0 hv1 hfv0 hfv1; have HB := n0_; have BR := n1_; have BX := n2_; have HR := n3_; have BV := n4_; clear n0_ n1_ n2_ n3_ n4_; have hv0 : w9.cell? ⟨gv, 0, none⟩ = some (.int .i64 u1) := (blk_cell BV.out 0).trans rfl; have hv1 : w9.cell? ⟨gv, 1, none⟩ = some (.int .i64 u2) := (blk_cell BV.out 1).trans rfl; have hfv0 := blk_frozen BV.out 0; have hfv1 := blk_frozen BV.out 1) | ((with_reducible refine gate_dst (N := 48) rfl ?_); (with_reducible refine gate_callee (f := 73) rfl ?_); refine goesL_ (some 48) rfl rfl Try.func73 (by kernel_rfl) rfl #[.int .i64 u1] rfl (by (try simp only [List.map_toArray, List.map_cons, List.map_nil]); first | done | rfl) ?_; (with_reducible refine (val_Neg.calls _ u3 _ HU3.out).mono ?_); rintro e_ w10 ⟨rfl, hb⟩; refine ⟨_, rfl, ?_⟩; have n_ := a_ (Aside0.mk (below_step HB.out hb)) (a_ (Aside0.mk (blk_below BR.out hb)) (a_ (Aside0.mk (blk_below BX.out hb)) (Aside0.mk (Kd.R_below HR.out hb)))); clear HB BR BX HR BV hb hv0 hv1 hfv0 hfv1; obtain ⟨HB, BR, BX, HR⟩ := n_) | ((with_reducible refine gate_dst (N := 49) rfl ?_); (with_reducible refine gate_callee (f := 66) rfl ?_); refine goesL_ (some 49) rfl rfl Try.func66 (by kernel_rfl) rfl #[.pointer (some ⟨gx, 0, none⟩), .int .i64 0, .int .i64 (wrap64 ((k : Int) + 1)), .int .i64 u3] rfl (by (try simp only [List.map_toArray, List.map_cons, List.map_nil]); first | done | rfl) ?_; (with_reducible refine (limit_at n 0 (k + 1) HN8.out (Nat.zero_le _) HK1.out 0 _ rfl HW1.out u3 gx b cap w.heap.size ln _ _ HZL2.out HLN.out _ BX.out HR.out).mono ?_); rintro e_ w11 ⟨rfl, hr, hbx, hk, hw⟩; refine ⟨_, rfl, ?_⟩; have n_ := a_ (Aside0.mk (below_row_ HB.out LWB.out hw)) (a_ (Aside0.mk (blk_kept_ BR.out hk NRB.out)) (a_ (Aside0.mk hbx) (Aside0.mk hr))); clear HB BR BX HR hr hbx hk hw; obtain ⟨HB, BR, BX, HR⟩ := n_))
      go_roundg (n - (k + 1))
      case measure => have := HM.out; omega
      case rel => exact ⟨k + 1, _, HK1.out, by first | exact congrArg (Value.int IntKind.i64) HW1.out | (simp only [i64_w]; exact congrArg (Value.int IntKind.i64) HW1.out), ⟨by omega⟩, BX, BR, HB, HR, ⟨by rw [limitL_length]; exact HZL2.out⟩, HBX⟩
    have hltz : ¬ (k : Int) < (n : Int) := by omega
    obtain rfl : n = k := by omega
    have hd := HBOX.out
    rw [show l0.drop n = [] by rw [HN.out, List.drop_length]] at hd
    obtain rfl : ze = zs := (Option.some.inj hd).symm
    clear hd HBOX
    go_wp2_with fail
    have n_ := a_ (Aside0.mk (blk_drew BX.out)) (a_ (Aside0.mk (blk_drew BR.out)) (a_ (Aside0.mk HB.out.drew) (Aside0.mk (Kd.R_drew HR.out))))
    clear BX BR HB HR
    obtain ⟨BX, BR, HB, HR⟩ := n_
    refine start_ (n := 13) (S := fun w' => w'.cell? ⟨gx, 0, none⟩ = some (.int .i64 n) ∧ w'.cell? ⟨gx, 1, none⟩ = some (.slice (some ⟨b, 0, none⟩) ln cap)) (ds := []) #[false, false, false, false, false, false, false, false, false, false, false, false, false] (by kernel_rfl) rfl rfl ⟨(blk_cell BX.out 0).trans rfl, (blk_cell BX.out 1).trans rfl⟩ (fun hHeld => ?_); refine with_tabW zone_Box.tab12 zone_Box.bits12 (fun HT_ HW_ => ?_)
    generalize hwd_ : wr.drew = wd at BX BR HB HR hHeld ⊢
    clear hwd_
    refine pu_ 0 (some 51) ?_
    refine pu_ 1 (some 52) ?_
    refine pu_ 2 (some 53) ?_
    refine pu_ 4 (some 55) ?_
    refine pu_ 5 (some 56) ?_
    refine pu_ 6 (some 57) ?_
    refine take_ (i := 3) (N := some 54) (v := ?_) (a' := ?_) #[true, true, true, true, true, true, true, false, false, false, false, false, false] rfl rfl (take_ofW HT_.out HW_.out (by kernel_rfl)) (fun _ _ _ h => h) (Or.inl ⟨by rfl, ?_⟩) hHeld ?_ ?_
    rotate_left
    · rintro w' ⟨s0, s1⟩
      go_simp
      with_reducible rfl
    rotate_left
    · exact AP_
    refine take_ (i := 7) (N := some 58) (v := ?_) (a' := ?_) #[true, true, true, true, true, true, true, true, false, false, false, false, false] rfl rfl (take_ofW HT_.out HW_.out (by kernel_rfl)) (fun _ _ _ h => h) (Or.inl ⟨by rfl, ?_⟩) hHeld ?_ ?_
    rotate_left
    · rintro w' ⟨s0, s1⟩
      go_simp
      with_reducible rfl
    rotate_left
    · exact AP_
    refine on_ 8 (some 59) (fun K hK => ?_)
    refine goes_ Try.func88 (by kernel_rfl) rfl #[.int .i64 n, .slice (some ⟨b, 0, none⟩) ln cap] (by rfl) rfl rfl MP_ ?_
    have HCC := dbm_Close.calls kc (n : Int) (some ⟨b, 0, none⟩) cap ze r1 r2 r3 wd (by have := (Kd.R_reads' HR.out).2.2; exact this) (by rw [HZL.out]; exact (Kd.R_reads' HR.out).2.1) HCL.out
    rw [HZL.out] at HCC
    with_reducible refine HCC.mono ?_
    clear HCC
    rintro e_ w9 ⟨v1, rfl, hr, hb⟩
    refine ⟨_, rfl, ?_⟩
    obtain ⟨A1, c1, rfl⟩ := Kd.R_slice hr
    have n3_ := Aside0.mk (Kd.R_lower (Kd.R_reok (ok := fun k => k ≠ gr) rfl hr (fun k hk => Nat.ne_of_gt (Nat.lt_of_lt_of_le (blk_lt BR.out) (Kd.R_base hr k hk)))) (below_size HB.out))
    have n0_ := Aside0.mk (blk_below BX.out hb)
    have n1_ := Aside0.mk (blk_below BR.out hb)
    have n2_ := Aside0.mk (below_step HB.out hb)
    clear BX BR HB HR hr hb
    have BX := n0_
    have BR := n1_
    have HB := n2_
    have HR := n3_
    clear n0_ n1_ n2_ n3_
    have hr0 : w9.cell? ⟨gr, 0, none⟩ = some (.int .i64 0) := (blk_cell BR.out 0).trans rfl
    have hr1 : w9.cell? ⟨gr, 1, none⟩ = some (.slice none 0 0) := (blk_cell BR.out 1).trans rfl
    have hf0 := blk_frozen BR.out 0
    have hf1 := blk_frozen BR.out 1
    refine hK.out _ _ ⟨(blk_cell BX.out 0).trans rfl, (blk_cell BX.out 1).trans rfl⟩ (fun hHeld => ?_)
    clear hK K
    refine nm_ ?_
    refine pu_ 9 (some 60) ?_
    refine pu_ 10 (some 61) ?_
    refine on_ 11 (none) (fun K hK => ?_)
    refine skip_ (w1 := ?_) (by rfl) rfl ?_ ?_
    rotate_left
    · go_simp
      rfl
    refine hK.out _ _ ⟨(blk_cell (blk_far (blk_far BX.out NXR.out _) NXR.out _) 0).trans rfl, (blk_cell (blk_far (blk_far BX.out NXR.out _) NXR.out _) 1).trans rfl⟩ (fun hHeld => ?_)
    clear hK K
    refine pu_ 12 (some 3) ?_
    refine done_ (done_of HT_.out (by kernel_rfl)) ?_
    go_wp2
    refine bodyPost_ret (results_ct rfl _ _ gr 24 #[.int .i64 r1, .slice A1 r2.length c1] (0, 0) _ rfl (by refine blk_put (cs := #[.int .i64 r1, .slice none 0 0]) ?_ 1 _ rfl; refine blk_put (cs := #[.int .i64 0, .slice none 0 0]) ?_ 0 _ rfl; exact BR.out) Try.underlying24 rfl (by kernel_rfl)) rfl ?_
    exact ⟨_, rfl, Kd.R_mono (Kd.R_far (p := ⟨gr, 1, none⟩) (Kd.R_far (p := ⟨gr, 0, none⟩) HR.out (fun _ hk => hk) (.int .i64 r1)) (fun _ hk => hk) (.slice A1 r2.length c1)) (fun _ _ => trivial), below_set (below_set HB.out GR.out) GR.out⟩
end Go.Proofs.Ytgeemdpflcefkaa.Z
