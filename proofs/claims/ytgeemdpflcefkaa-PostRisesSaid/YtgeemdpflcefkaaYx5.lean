import Derived.Test.YtgeemdpflcefkaaYx0
import Derived.Test.YtgeemdpflcefkaaYx3
import Derived.Test.YtgeemdpflcefkaaYx4
namespace Go.Proofs.Ytgeemdpflcefkaa.Y
open Go.RowKit Go.Proofs.YtgeemdpflcefkaaW.PrintWords Go.Proofs.YtgeemdpflcefkaaW.PrintLast Go.Proofs.YtgeemdpflcefkaaW.PrintMore
attribute [local go_sem] max2_int min2_int max_two min_two max_three min_three max_four min_four   -- for this text's walks alone
set_option linter.unusedVariables false
set_option linter.unusedSimpArgs false
/-- The greatest difference of any two. -/
def mostF (i j : Int) : Int := if i = j then 0 else if i = 0 then 1099511627776 else if j = 0 then 1099511627776 else 2199023255552
def F1 (n : Nat) (ys : List Int) (i j : Int) : Int := mx (mn (rd ys (i * (n + 1) + j)) (mostF i j)) (-2199023255553)
theorem most_some (i j : Int) : dbm_most.f i j = some (mostF i j) := by
 unfold dbm_most.f mostF
 repeat' split
 all_goals rfl
def dbm_grid_close_1.T1 : Bool × List (List Nat × List Nat) := (true, [([], []), ([0], [0]), ([], []), ([], []), ([], []), ([2, 3, 4], [2, 3, 4]), ([1, 5], [1, 5]), ([6], [6]), ([], []), ([], []), ([8, 9, 5], [8, 9]), ([7, 10], [7, 10]), ([11], [11]), ([12, 10, 0, 1, 2, 3, 4, 5, 6, 7, 8, 9, 10, 11, 12], [12])])
def dbm_grid_close_1.B1 : List Nat := [0, 1, 0, 0, 0, 28, 63, 127, 0, 0, 828, 2047, 4095, 8191]
theorem dbm_grid_close_1.tab1 : rtab .any (opsOf Try.f118 1) = dbm_grid_close_1.T1 := by kernel_rfl
theorem dbm_grid_close_1.bits1 : waitsOk dbm_grid_close_1.T1.2 dbm_grid_close_1.B1 = true := by kernel_rfl
set_option maxHeartbeats 8000000 in
set_option maxRecDepth 100000 in
theorem close1_calls (n i j : Nat) (hn : n ≤ 8) (hi : i ≤ n) (hj : j ≤ n) (gb b cap base : Nat) (ok : Nat → Prop) (ys : List Int) (hys : ys.length = (n + 1) * (n + 1)) (w : World)
   (hbk : w.heap[gb]? = some (.cells #[.int .i64 n, .slice (some ⟨b, 0, none⟩) ys.length cap] 94 (0, 0))) (hR : Kd.R (Kd.int .i64) 3 w base ok (.slice (some ⟨b, 0, none⟩) ys.length cap) ys) :
   Calls Try.prog 118 #[.int .i64 i, .int .i64 j, .pointer (some ⟨gb, 0, none⟩)] w fun e w' => e = .returned (.int .i64 (F1 n ys i j)) ∧ Below w.heap.size w w' := by
 obtain ⟨p, hp⟩ : ∃ p : Nat, p = i * (n + 1) + j := ⟨_, rfl⟩
 have hpl : p < ys.length := by
   rw [hys, hp]
   exact place_lt hi hj
 have hp0 : (0 : Int) ≤ (p : Int) := Int.natCast_nonneg _
 have hp1 : (p : Int) < (ys.length : Int) := Int.ofNat_lt.2 hpl
 have HF : Aside0 (F1 n ys i j = mx (mn (rd ys (p : Int)) (mostF i j)) (-2199023255553)) := ⟨by
   unfold F1
   rw [show (i : Int) * ((n : Int) + 1) + (j : Int) = (p : Int) by rw [hp]; push_cast; rfl]⟩
 obtain ⟨hx13, hf13⟩ := Kd.R_celln 0 hR (p : Int) hp0 hp1
 rw [Int.toNat_natCast] at hx13
 have HX := Aside0.mk (show w.cell? ⟨b, p, none⟩ = some (.int .i64 (rd ys (p : Int))) from hx13)
 have BK := Aside0.mk hbk
 have HC := Aside0.mk ((Kd.R_reads' hR).2.2)
 have HCap := Aside0.mk ((Kd.R_reads' hR).2.1)
 have HP := Aside0.mk hp
 have HB := Aside0.mk (Below.refl w.heap.size w)
 generalize rd ys (p : Int) = x at HX HF
 clear hx13 hf13 hp hR hbk hys hpl
 go_enter Try.func118, Try.ntmps118
 go_wp2_with fail
 have n0_ := Aside0.mk (blk_drew BK.out)
 have n1_ : Aside0 (w.drew.cell? ⟨b, p, none⟩ = some (.int .i64 x)) := ⟨by have h := HX.out; first | (go_simp; done) | (go_simp; exact h)⟩
 have n2_ := Aside0.mk (below_drew1 HB.out)
 have n3_ := Aside0.mk (Kd.C_drew HC.out)
 clear BK HX HB HC
 have BK := n0_
 have HX := n1_
 have HB := n2_
 have HC := n3_
 clear n0_ n1_ n2_ n3_
 refine start_ (n := 14) (S := fun w' => w'.cell? ⟨gb, 0, none⟩ = some (.int .i64 n) ∧ w'.cell? ⟨gb, 1, none⟩ = some (.slice (some ⟨b, 0, none⟩) ys.length cap) ∧ w'.cell? ⟨b, p, none⟩ = some (.int .i64 x)) (ds := []) #[false, false, false, false, false, false, false, false, false, false, false, false, false, false] (by kernel_rfl) rfl rfl ⟨(blk_cell BK.out 0).trans rfl, (blk_cell BK.out 1).trans rfl, HX.out⟩ (fun hHeld => ?_); refine with_tabW dbm_grid_close_1.tab1 dbm_grid_close_1.bits1 (fun HT_ HW_ => ?_)
 generalize hwd_ : w.drew = wd at BK HX HB HC hHeld ⊢
 clear hwd_
 refine pu_ 0 (some 6) ?_
 refine pu_ 3 (some 9) ?_
 refine pu_ 4 (some 10) ?_
 refine pu_ 8 (some 14) ?_
 refine pu_ 9 (some 15) ?_
 refine take_ (i := 1) (N := some 7) (v := ?_) (a' := ?_) #[true, true, false, true, true, false, false, false, true, true, false, false, false, false] rfl rfl (take_ofW HT_.out HW_.out (by kernel_rfl)) (fun _ _ _ h => h) (Or.inl ⟨by rfl, ?_⟩) hHeld ?_ ?_
 rotate_left
 · rintro w' ⟨s0, s1, s2⟩
   go_simp
   with_reducible rfl
 rotate_left
 · exact AP_
 refine take_ (i := 2) (N := some 8) (v := ?_) (a' := ?_) #[true, true, true, true, true, false, false, false, true, true, false, false, false, false] rfl rfl (take_ofW HT_.out HW_.out (by kernel_rfl)) (fun _ _ _ h => h) (Or.inl ⟨by rfl, ?_⟩) hHeld ?_ ?_
 rotate_left
 · rintro w' ⟨s0, s1, s2⟩
   go_simp
   with_reducible rfl
 rotate_left
 · exact AP_
 refine on_ 5 (some 11) (fun K hK => ?_)
 refine goes_ Try.func86 (by kernel_rfl) rfl #[.agg #[.int .i64 n, .slice (some ⟨b, 0, none⟩) ys.length cap], .int .i64 i, .int .i64 j] (by rfl) rfl rfl MP_ ?_
 with_reducible refine (at_len n i j hn hi hj (some ⟨b, 0, none⟩) ys.length cap _ rfl p HP.out _ HC.out HCap.out).mono ?_
 rintro e w5 ⟨rfl, hb⟩
 refine ⟨_, rfl, ?_⟩
 have n_ := a_ (Aside0.mk (blk_below BK.out hb)) (a_ (Aside0.mk (pw_cell_below hb HX.out)) (Aside0.mk (below_step HB.out hb)))
 clear BK HX HB hb
 obtain ⟨BK, HX, HB⟩ := n_
 refine hK.out _ _ ⟨(blk_cell BK.out 0).trans rfl, (blk_cell BK.out 1).trans rfl, HX.out⟩ (fun hHeld => ?_)
 clear hK K
 refine nm_ ?_
 refine pu_ 6 (some 12) ?_
 refine take_ (i := 7) (N := some 13) (v := ?_) (a' := ?_) #[true, true, true, true, true, true, true, true, true, true, false, false, false, false] rfl rfl (take_ofW HT_.out HW_.out (by kernel_rfl)) (fun _ _ _ h => h) (Or.inl ⟨by rfl, ?_⟩) hHeld ?_ ?_
 rotate_left
 · rintro w' ⟨s0, s1, s2⟩
   go_simp
   with_reducible rfl
 rotate_left
 · exact AP_
 refine on_ 10 (some 16) (fun K hK => ?_)
 refine goes_ Try.func110 (by kernel_rfl) rfl #[.int .i64 i, .int .i64 j] (by rfl) rfl rfl MP_ ?_
 with_reducible refine (dbm_most.calls i j _ _ (most_some _ _)).mono ?_
 rintro e w6 ⟨rfl, ⟨nd, rfl⟩⟩
 refine ⟨_, rfl, ?_⟩
 have n0_ := Aside0.mk (blk_drewN BK.out nd)
 have n1_ : Aside0 ((w5.drewN nd).cell? ⟨b, p, none⟩ = some (.int .i64 x)) := ⟨by have h := HX.out; first | (go_simp; done) | (go_simp; exact h)⟩
 have n2_ := Aside0.mk (pw_below_drewN HB.out nd)
 clear BK HX HB
 have BK := n0_
 have HX := n1_
 have HB := n2_
 clear n0_ n1_ n2_
 refine hK.out _ _ ⟨(blk_cell BK.out 0).trans rfl, (blk_cell BK.out 1).trans rfl, HX.out⟩ (fun hHeld => ?_)
 clear hK K
 refine nm_ ?_
 refine pure_ (i := 11) (N := some 17) (v := (.int .i64 (mn x (mostF i j)))) (a' := ?pa11_1) #[true, true, true, true, true, true, true, true, true, true, true, true, false, false] rfl rfl (any_of HT_.out (by kernel_rfl)) (fun _ _ _ h => h) (Or.inl ⟨by rfl, ?prun11_1⟩) ?pput11_1 ?pcont11_1
 case prun11_1 =>
   intro w'
   go_simp
   first | rfl | (simp only [i64_w, i32_w]; first | done | rfl)
 case pput11_1 =>
   simp only [Act.put, List.setIfInBounds_toArray, List.set_cons_zero, List.set_cons_succ, i64_w, i32_w]
   rfl
 refine pure_ (i := 12) (N := some 18) (v := (.int .i64 (mx (mn x (mostF i j)) (-2199023255553)))) (a' := ?pa12_2) #[true, true, true, true, true, true, true, true, true, true, true, true, true, false] rfl rfl (any_of HT_.out (by kernel_rfl)) (fun _ _ _ h => h) (Or.inl ⟨by rfl, ?prun12_2⟩) ?pput12_2 ?pcont12_2
 case prun12_2 =>
   intro w'
   go_simp
   first | rfl | (simp only [i64_w, i32_w]; first | done | rfl)
 case pput12_2 =>
   simp only [Act.put, List.setIfInBounds_toArray, List.set_cons_zero, List.set_cons_succ, i64_w, i32_w]
   rfl
 refine pu_ 13 (some 5) ?_
 refine done_ (done_of HT_.out (by kernel_rfl)) ?_
 go_wp2
 go_ret
 refine ⟨?_, HB.out⟩
 rw [HF.out]
 rfl
end Go.Proofs.Ytgeemdpflcefkaa.Y
