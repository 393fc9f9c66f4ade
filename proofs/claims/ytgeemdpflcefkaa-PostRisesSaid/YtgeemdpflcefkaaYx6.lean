import Derived.Test.YtgeemdpflcefkaaYx0
import Derived.Test.YtgeemdpflcefkaaYx4
namespace Go.Proofs.Ytgeemdpflcefkaa.Y
open Go.RowKit Go.Proofs.YtgeemdpflcefkaaW.PrintWords Go.Proofs.YtgeemdpflcefkaaW.PrintLast Go.Proofs.YtgeemdpflcefkaaW.PrintMore
attribute [local go_sem] max2_int min2_int max_two min_two max_three min_three max_four min_four   -- for this text's walks alone
set_option linter.unusedVariables false
set_option linter.unusedSimpArgs false
def F2 (n k : Nat) (ys : List Int) (i j : Int) : Int := mx (mn (rd ys (i * (n + 1) + j)) (wrap64 (rd ys (i * (n + 1) + k) + rd ys (k * (n + 1) + j)))) (-2199023255553)
def dbm_grid_close_2.T1 : Bool × List (List Nat × List Nat) := (true, [([], []), ([0], [0]), ([], []), ([], []), ([], []), ([2, 3, 4], [2, 3, 4]), ([1, 5], [1, 5]), ([6], [6]), ([], []), ([8], [8]), ([], []), ([], []), ([], []), ([10, 11, 12, 5], [10, 11, 12]), ([9, 13], [9, 13]), ([14], [14]), ([], []), ([16], [16]), ([], []), ([], []), ([], []), ([18, 19, 20, 13], [18, 19, 20]), ([17, 21], [17, 21]), ([22], [22]), ([15, 23], [15, 23]), ([7, 24], [7, 24]), ([25], [25]), ([26, 21, 0, 1, 2, 3, 4, 5, 6, 7, 8, 9, 10, 11, 12, 13, 14, 15, 16, 17, 18, 19, 20, 21, 22, 23, 24, 25, 26], [26])])
def dbm_grid_close_2.B1 : List Nat := [0, 1, 0, 0, 0, 28, 63, 127, 0, 256, 0, 0, 0, 7228, 16188, 32572, 0, 65536, 0, 0, 0, 1850428, 4144188, 8338492, 16777020, 33554431, 67108863, 134217727]
theorem dbm_grid_close_2.tab1 : rtab .any (opsOf Try.f119 1) = dbm_grid_close_2.T1 := by kernel_rfl
theorem dbm_grid_close_2.bits1 : waitsOk dbm_grid_close_2.T1.2 dbm_grid_close_2.B1 = true := by kernel_rfl
set_option maxHeartbeats 8000000 in
set_option maxRecDepth 100000 in
theorem close2_calls (n i j k : Nat) (hn : n ≤ 8) (hi : i ≤ n) (hj : j ≤ n) (hk : k ≤ n) (gb kb b cap base : Nat) (ok : Nat → Prop) (ys : List Int) (hys : ys.length = (n + 1) * (n + 1)) (w : World)
   (hbk : w.heap[gb]? = some (.cells #[.int .i64 n, .slice (some ⟨b, 0, none⟩) ys.length cap] 94 (0, 0))) (hkb : w.heap[kb]? = some (.cells #[.int .i64 k] 3 (0, 0)))
   (hR : Kd.R (Kd.int .i64) 3 w base ok (.slice (some ⟨b, 0, none⟩) ys.length cap) ys) :
   Calls Try.prog 119 #[.int .i64 i, .int .i64 j, .pointer (some ⟨gb, 0, none⟩), .pointer (some ⟨kb, 0, none⟩)] w fun e w' => e = .returned (.int .i64 (F2 n k ys i j)) ∧ Below w.heap.size w w' := by
 obtain ⟨p1, hp1⟩ : ∃ p : Nat, p = i * (n + 1) + j := ⟨_, rfl⟩
 obtain ⟨p2, hp2⟩ : ∃ p : Nat, p = i * (n + 1) + k := ⟨_, rfl⟩
 obtain ⟨p3, hp3⟩ : ∃ p : Nat, p = k * (n + 1) + j := ⟨_, rfl⟩
 have hl1 : p1 < ys.length := by
   rw [hys, hp1]
   exact place_lt hi hj
 have hl2 : p2 < ys.length := by
   rw [hys, hp2]
   exact place_lt hi hk
 have hl3 : p3 < ys.length := by
   rw [hys, hp3]
   exact place_lt hk hj
 have a1 : (0 : Int) ≤ (p1 : Int) := Int.natCast_nonneg _
 have a2 : (0 : Int) ≤ (p2 : Int) := Int.natCast_nonneg _
 have a3 : (0 : Int) ≤ (p3 : Int) := Int.natCast_nonneg _
 have b1 : (p1 : Int) < (ys.length : Int) := Int.ofNat_lt.2 hl1
 have b2 : (p2 : Int) < (ys.length : Int) := Int.ofNat_lt.2 hl2
 have b3 : (p3 : Int) < (ys.length : Int) := Int.ofNat_lt.2 hl3
 have HF : Aside0 (F2 n k ys i j = mx (mn (rd ys (p1 : Int)) (wrap64 (rd ys (p2 : Int) + rd ys (p3 : Int)))) (-2199023255553)) := ⟨by
   unfold F2
   rw [show (i : Int) * ((n : Int) + 1) + (j : Int) = (p1 : Int) by rw [hp1]; push_cast; rfl]
   rw [show (i : Int) * ((n : Int) + 1) + (k : Int) = (p2 : Int) by rw [hp2]; push_cast; rfl]
   rw [show (k : Int) * ((n : Int) + 1) + (j : Int) = (p3 : Int) by rw [hp3]; push_cast; rfl]⟩
 obtain ⟨hx1, _⟩ := Kd.R_celln 0 hR (p1 : Int) a1 b1
 obtain ⟨hx2, _⟩ := Kd.R_celln 0 hR (p2 : Int) a2 b2
 obtain ⟨hx3, _⟩ := Kd.R_celln 0 hR (p3 : Int) a3 b3
 rw [Int.toNat_natCast] at hx1 hx2 hx3
 have HX1 := Aside0.mk (show w.cell? ⟨b, p1, none⟩ = some (.int .i64 (rd ys (p1 : Int))) from hx1)
 have HX2 := Aside0.mk (show w.cell? ⟨b, p2, none⟩ = some (.int .i64 (rd ys (p2 : Int))) from hx2)
 have HX3 := Aside0.mk (show w.cell? ⟨b, p3, none⟩ = some (.int .i64 (rd ys (p3 : Int))) from hx3)
 have BK := Aside0.mk hbk
 have KB := Aside0.mk hkb
 have HC := Aside0.mk ((Kd.R_reads' hR).2.2)
 have HCap := Aside0.mk ((Kd.R_reads' hR).2.1)
 have HP1 := Aside0.mk hp1
 have HP2 := Aside0.mk hp2
 have HP3 := Aside0.mk hp3
 have HB := Aside0.mk (Below.refl w.heap.size w)
 generalize rd ys (p1 : Int) = x1 at HX1 HF
 generalize rd ys (p2 : Int) = x2 at HX2 HF
 generalize rd ys (p3 : Int) = x3 at HX3 HF
 clear hx1 hx2 hx3 hp1 hp2 hp3 hR hbk hkb hys hl1 hl2 hl3
 go_enter Try.func119, Try.ntmps119
 go_wp2_with fail
 have n0_ := Aside0.mk (blk_drew BK.out)
 have n1_ : Aside0 (w.drew.cell? ⟨b, p1, none⟩ = some (.int .i64 x1)) := ⟨by have h := HX1.out; first | (go_simp; done) | (go_simp; exact h)⟩
 have n2_ : Aside0 (w.drew.cell? ⟨b, p2, none⟩ = some (.int .i64 x2)) := ⟨by have h := HX2.out; first | (go_simp; done) | (go_simp; exact h)⟩
 have n3_ : Aside0 (w.drew.cell? ⟨b, p3, none⟩ = some (.int .i64 x3)) := ⟨by have h := HX3.out; first | (go_simp; done) | (go_simp; exact h)⟩
 have n4_ := Aside0.mk (below_drew1 HB.out)
 have n5_ := Aside0.mk (blk_drew KB.out)
 clear BK HX1 HX2 HX3 HB KB
 have BK := n0_
 have HX1 := n1_
 have HX2 := n2_
 have HX3 := n3_
 have HB := n4_
 have KB := n5_
 clear n0_ n1_ n2_ n3_ n4_ n5_
 refine start_ (n := 28) (S := fun w' => w'.cell? ⟨gb, 0, none⟩ = some (.int .i64 n) ∧ w'.cell? ⟨gb, 1, none⟩ = some (.slice (some ⟨b, 0, none⟩) ys.length cap) ∧ w'.cell? ⟨kb, 0, none⟩ = some (.int .i64 k) ∧ w'.cell? ⟨b, p1, none⟩ = some (.int .i64 x1) ∧ w'.cell? ⟨b, p2, none⟩ = some (.int .i64 x2) ∧ w'.cell? ⟨b, p3, none⟩ = some (.int .i64 x3)) (ds := []) #[false, false, false, false, false, false, false, false, false, false, false, false, false, false, false, false, false, false, false, false, false, false, false, false, false, false, false, false] (by kernel_rfl) rfl rfl ⟨(blk_cell BK.out 0).trans rfl, (blk_cell BK.out 1).trans rfl, (blk_cell KB.out 0).trans rfl, HX1.out, HX2.out, HX3.out⟩ (fun hHeld => ?_); refine with_tabW dbm_grid_close_2.tab1 dbm_grid_close_2.bits1 (fun HT_ HW_ => ?_)
 generalize hwd_ : w.drew = wd at BK KB HX1 HX2 HX3 HB hHeld ⊢
 clear hwd_
 refine pu_ 0 (some 7) ?_
 refine pu_ 3 (some 10) ?_
 refine pu_ 4 (some 11) ?_
 refine pu_ 8 (some 15) ?_
 refine pu_ 11 (some 18) ?_
 refine pu_ 16 (some 23) ?_
 refine pu_ 20 (some 27) ?_
 refine take_ (i := 1) (N := some 8) (v := ?_) (a' := ?_) #[true, true, false, true, true, false, false, false, true, false, false, true, false, false, false, false, true, false, false, false, true, false, false, false, false, false, false, false] rfl rfl (take_ofW HT_.out HW_.out (by kernel_rfl)) (fun _ _ _ h => h) (Or.inl ⟨by rfl, ?_⟩) hHeld ?_ ?_
 rotate_left
 · rintro w' ⟨s0, s1, s2, s3, s4, s5⟩
   go_simp
   with_reducible rfl
 rotate_left
 · exact AP_
 refine take_ (i := 2) (N := some 9) (v := ?_) (a' := ?_) #[true, true, true, true, true, false, false, false, true, false, false, true, false, false, false, false, true, false, false, false, true, false, false, false, false, false, false, false] rfl rfl (take_ofW HT_.out HW_.out (by kernel_rfl)) (fun _ _ _ h => h) (Or.inl ⟨by rfl, ?_⟩) hHeld ?_ ?_
 rotate_left
 · rintro w' ⟨s0, s1, s2, s3, s4, s5⟩
   go_simp
   with_reducible rfl
 rotate_left
 · exact AP_
 refine take_ (i := 9) (N := some 16) (v := ?_) (a' := ?_) #[true, true, true, true, true, false, false, false, true, true, false, true, false, false, false, false, true, false, false, false, true, false, false, false, false, false, false, false] rfl rfl (take_ofW HT_.out HW_.out (by kernel_rfl)) (fun _ _ _ h => h) (Or.inl ⟨by rfl, ?_⟩) hHeld ?_ ?_
 rotate_left
 · rintro w' ⟨s0, s1, s2, s3, s4, s5⟩
   go_simp
   with_reducible rfl
 rotate_left
 · exact AP_
 refine take_ (i := 10) (N := some 17) (v := ?_) (a' := ?_) #[true, true, true, true, true, false, false, false, true, true, true, true, false, false, false, false, true, false, false, false, true, false, false, false, false, false, false, false] rfl rfl (take_ofW HT_.out HW_.out (by kernel_rfl)) (fun _ _ _ h => h) (Or.inl ⟨by rfl, ?_⟩) hHeld ?_ ?_
 rotate_left
 · rintro w' ⟨s0, s1, s2, s3, s4, s5⟩
   go_simp
   with_reducible rfl
 rotate_left
 · exact AP_
 refine take_ (i := 12) (N := some 19) (v := ?_) (a' := ?_) #[true, true, true, true, true, false, false, false, true, true, true, true, true, false, false, false, true, false, false, false, true, false, false, false, false, false, false, false] rfl rfl (take_ofW HT_.out HW_.out (by kernel_rfl)) (fun _ _ _ h => h) (Or.inl ⟨by rfl, ?_⟩) hHeld ?_ ?_
 rotate_left
 · rintro w' ⟨s0, s1, s2, s3, s4, s5⟩
   go_simp
   with_reducible rfl
 rotate_left
 · exact AP_
 refine take_ (i := 17) (N := some 24) (v := ?_) (a' := ?_) #[true, true, true, true, true, false, false, false, true, true, true, true, true, false, false, false, true, true, false, false, true, false, false, false, false, false, false, false] rfl rfl (take_ofW HT_.out HW_.out (by kernel_rfl)) (fun _ _ _ h => h) (Or.inl ⟨by rfl, ?_⟩) hHeld ?_ ?_
 rotate_left
 · rintro w' ⟨s0, s1, s2, s3, s4, s5⟩
   go_simp
   with_reducible rfl
 rotate_left
 · exact AP_
 refine take_ (i := 18) (N := some 25) (v := ?_) (a' := ?_) #[true, true, true, true, true, false, false, false, true, true, true, true, true, false, false, false, true, true, true, false, true, false, false, false, false, false, false, false] rfl rfl (take_ofW HT_.out HW_.out (by kernel_rfl)) (fun _ _ _ h => h) (Or.inl ⟨by rfl, ?_⟩) hHeld ?_ ?_
 rotate_left
 · rintro w' ⟨s0, s1, s2, s3, s4, s5⟩
   go_simp
   with_reducible rfl
 rotate_left
 · exact AP_
 refine take_ (i := 19) (N := some 26) (v := ?_) (a' := ?_) #[true, true, true, true, true, false, false, false, true, true, true, true, true, false, false, false, true, true, true, true, true, false, false, false, false, false, false, false] rfl rfl (take_ofW HT_.out HW_.out (by kernel_rfl)) (fun _ _ _ h => h) (Or.inl ⟨by rfl, ?_⟩) hHeld ?_ ?_
 rotate_left
 · rintro w' ⟨s0, s1, s2, s3, s4, s5⟩
   go_simp
   with_reducible rfl
 rotate_left
 · exact AP_
 refine on_ 5 (some 12) (fun K hK => ?_)
 refine goes_ Try.func86 (by kernel_rfl) rfl #[.agg #[.int .i64 n, .slice (some ⟨b, 0, none⟩) ys.length cap], .int .i64 i, .int .i64 j] (by rfl) rfl rfl MP_ ?_
 with_reducible refine (at_len n i j hn hi hj (some ⟨b, 0, none⟩) ys.length cap _ rfl p1 HP1.out _ (Kd.C_below HC.out HB.out) HCap.out).mono ?_
 rintro e w5 ⟨rfl, hb⟩
 refine ⟨_, rfl, ?_⟩
 have n_ := a_ (Aside0.mk (blk_below BK.out hb)) (a_ (Aside0.mk (pw_cell_below hb HX1.out)) (a_ (Aside0.mk (pw_cell_below hb HX2.out)) (a_ (Aside0.mk (pw_cell_below hb HX3.out)) (a_ (Aside0.mk (below_step HB.out hb)) (Aside0.mk (blk_below KB.out hb))))))
 clear BK HX1 HX2 HX3 HB KB hb
 obtain ⟨BK, HX1, HX2, HX3, HB, KB⟩ := n_
 refine hK.out _ _ ⟨(blk_cell BK.out 0).trans rfl, (blk_cell BK.out 1).trans rfl, (blk_cell KB.out 0).trans rfl, HX1.out, HX2.out, HX3.out⟩ (fun hHeld => ?_)
 clear hK K
 refine nm_ ?_
 refine pu_ 6 (some 13) ?_
 refine take_ (i := 7) (N := some 14) (v := ?_) (a' := ?_) #[true, true, true, true, true, true, true, true, true, true, true, true, true, false, false, false, true, true, true, true, true, false, false, false, false, false, false, false] rfl rfl (take_ofW HT_.out HW_.out (by kernel_rfl)) (fun _ _ _ h => h) (Or.inl ⟨by rfl, ?_⟩) hHeld ?_ ?_
 rotate_left
 · rintro w' ⟨s0, s1, s2, s3, s4, s5⟩
   go_simp
   with_reducible rfl
 rotate_left
 · exact AP_
 refine on_ 13 (some 20) (fun K hK => ?_)
 refine goes_ Try.func86 (by kernel_rfl) rfl #[.agg #[.int .i64 n, .slice (some ⟨b, 0, none⟩) ys.length cap], .int .i64 i, .int .i64 k] (by rfl) rfl rfl MP_ ?_
 with_reducible refine (at_len n i k hn hi hk (some ⟨b, 0, none⟩) ys.length cap _ rfl p2 HP2.out _ (Kd.C_below HC.out HB.out) HCap.out).mono ?_
 rintro e w6 ⟨rfl, hb⟩
 refine ⟨_, rfl, ?_⟩
 have n_ := a_ (Aside0.mk (blk_below BK.out hb)) (a_ (Aside0.mk (pw_cell_below hb HX1.out)) (a_ (Aside0.mk (pw_cell_below hb HX2.out)) (a_ (Aside0.mk (pw_cell_below hb HX3.out)) (a_ (Aside0.mk (below_step HB.out hb)) (Aside0.mk (blk_below KB.out hb))))))
 clear BK HX1 HX2 HX3 HB KB hb
 obtain ⟨BK, HX1, HX2, HX3, HB, KB⟩ := n_
 refine hK.out _ _ ⟨(blk_cell BK.out 0).trans rfl, (blk_cell BK.out 1).trans rfl, (blk_cell KB.out 0).trans rfl, HX1.out, HX2.out, HX3.out⟩ (fun hHeld => ?_)
 clear hK K
 refine nm_ ?_
 refine pu_ 14 (some 21) ?_
 refine take_ (i := 15) (N := some 22) (v := ?_) (a' := ?_) #[true, true, true, true, true, true, true, true, true, true, true, true, true, true, true, true, true, true, true, true, true, false, false, false, false, false, false, false] rfl rfl (take_ofW HT_.out HW_.out (by kernel_rfl)) (fun _ _ _ h => h) (Or.inl ⟨by rfl, ?_⟩) hHeld ?_ ?_
 rotate_left
 · rintro w' ⟨s0, s1, s2, s3, s4, s5⟩
   go_simp
   with_reducible rfl
 rotate_left
 · exact AP_
 refine on_ 21 (some 28) (fun K hK => ?_)
 refine goes_ Try.func86 (by kernel_rfl) rfl #[.agg #[.int .i64 n, .slice (some ⟨b, 0, none⟩) ys.length cap], .int .i64 k, .int .i64 j] (by rfl) rfl rfl MP_ ?_
 with_reducible refine (at_len n k j hn hk hj (some ⟨b, 0, none⟩) ys.length cap _ rfl p3 HP3.out _ (Kd.C_below HC.out HB.out) HCap.out).mono ?_
 rintro e w7 ⟨rfl, hb⟩
 refine ⟨_, rfl, ?_⟩
 have n_ := a_ (Aside0.mk (blk_below BK.out hb)) (a_ (Aside0.mk (pw_cell_below hb HX1.out)) (a_ (Aside0.mk (pw_cell_below hb HX2.out)) (a_ (Aside0.mk (pw_cell_below hb HX3.out)) (a_ (Aside0.mk (below_step HB.out hb)) (Aside0.mk (blk_below KB.out hb))))))
 clear BK HX1 HX2 HX3 HB KB hb
 obtain ⟨BK, HX1, HX2, HX3, HB, KB⟩ := n_
 refine hK.out _ _ ⟨(blk_cell BK.out 0).trans rfl, (blk_cell BK.out 1).trans rfl, (blk_cell KB.out 0).trans rfl, HX1.out, HX2.out, HX3.out⟩ (fun hHeld => ?_)
 clear hK K
 refine nm_ ?_
 refine pu_ 22 (some 29) ?_
 refine take_ (i := 23) (N := some 30) (v := ?_) (a' := ?_) #[true, true, true, true, true, true, true, true, true, true, true, true, true, true, true, true, true, true, true, true, true, true, true, true, false, false, false, false] rfl rfl (take_ofW HT_.out HW_.out (by kernel_rfl)) (fun _ _ _ h => h) (Or.inl ⟨by rfl, ?_⟩) hHeld ?_ ?_
 rotate_left
 · rintro w' ⟨s0, s1, s2, s3, s4, s5⟩
   go_simp
   with_reducible rfl
 rotate_left
 · exact AP_
 refine pure_ (i := 24) (N := some 31) (v := (.int .i64 (wrap64 (x2 + x3)))) (a' := ?pa24_1) #[true, true, true, true, true, true, true, true, true, true, true, true, true, true, true, true, true, true, true, true, true, true, true, true, true, false, false, false] rfl rfl (any_of HT_.out (by kernel_rfl)) (fun _ _ _ h => h) (Or.inl ⟨by rfl, ?prun24_1⟩) ?pput24_1 ?pcont24_1
 case prun24_1 =>
   intro w'
   go_simp
   first | rfl | (simp only [i64_w, i32_w]; first | done | rfl)
 case pput24_1 =>
   simp only [Act.put, List.setIfInBounds_toArray, List.set_cons_zero, List.set_cons_succ, i64_w, i32_w]
   rfl
 refine pure_ (i := 25) (N := some 32) (v := (.int .i64 (mn x1 (wrap64 (x2 + x3))))) (a' := ?pa25_2) #[true, true, true, true, true, true, true, true, true, true, true, true, true, true, true, true, true, true, true, true, true, true, true, true, true, true, false, false] rfl rfl (any_of HT_.out (by kernel_rfl)) (fun _ _ _ h => h) (Or.inl ⟨by rfl, ?prun25_2⟩) ?pput25_2 ?pcont25_2
 case prun25_2 =>
   intro w'
   go_simp
   first | rfl | (simp only [i64_w, i32_w]; first | done | rfl)
 case pput25_2 =>
   simp only [Act.put, List.setIfInBounds_toArray, List.set_cons_zero, List.set_cons_succ, i64_w, i32_w]
   rfl
 refine pure_ (i := 26) (N := some 33) (v := (.int .i64 (mx (mn x1 (wrap64 (x2 + x3))) (-2199023255553)))) (a' := ?pa26_3) #[true, true, true, true, true, true, true, true, true, true, true, true, true, true, true, true, true, true, true, true, true, true, true, true, true, true, true, false] rfl rfl (any_of HT_.out (by kernel_rfl)) (fun _ _ _ h => h) (Or.inl ⟨by rfl, ?prun26_3⟩) ?pput26_3 ?pcont26_3
 case prun26_3 =>
   intro w'
   go_simp
   first | rfl | (simp only [i64_w, i32_w]; first | done | rfl)
 case pput26_3 =>
   simp only [Act.put, List.setIfInBounds_toArray, List.set_cons_zero, List.set_cons_succ, i64_w, i32_w]
   rfl
 refine pu_ 27 (some 6) ?_
 refine done_ (done_of HT_.out (by kernel_rfl)) ?_
 go_wp2
 go_ret
 refine ⟨?_, HB.out⟩
 rw [HF.out]
 rfl
end Go.Proofs.Ytgeemdpflcefkaa.Y
