import Derived.Test.YtgeemdpflcefkaaYx0
import Derived.Test.YtgeemdpflcefkaaYx4
import Derived.Test.YtgeemdpflcefkaaYx17
namespace Go.Proofs.Ytgeemdpflcefkaa.Y
open Go.RowKit Go.Proofs.YtgeemdpflcefkaaW.PrintWords Go.Proofs.YtgeemdpflcefkaaW.PrintLast Go.Proofs.YtgeemdpflcefkaaW.PrintMore
attribute [local go_sem] max2_int min2_int max_two min_two max_three min_three max_four min_four   -- for this text's walks alone
set_option linter.unusedVariables false
set_option linter.unusedSimpArgs false
/-- A variable's bounds, freed one behind the other. -/
def freeTo (i n : Nat) (xs : List Int) : Nat → List Int
 | 0 => xs
 | k + 1 => ((freeTo i n xs k).set (i * (n + 1) + k) 4398046511104).set (k * (n + 1) + i) 4398046511104
theorem freeTo_length (i n : Nat) (xs : List Int) : ∀ k, (freeTo i n xs k).length = xs.length
 | 0 => rfl
 | k + 1 => by rw [freeTo, List.length_set, List.length_set, freeTo_length i n xs k]
def zone_matrix_free.T3 : Bool × List (List Nat × List Nat) := (true, [([], []), ([0], [0]), ([1], [1]), ([2], [2]), ([], []), ([], []), ([], []), ([4, 5, 6], [4, 5, 6]), ([], []), ([8], [8]), ([9], [9]), ([10], [10]), ([], []), ([], []), ([], []), ([12, 13, 14, 7], [12, 13, 14]), ([3, 7, 0, 1, 2, 3, 4, 5, 6, 7, 11, 15], [3, 7]), ([16, 15, 0, 1, 2, 3, 4, 5, 6, 7, 11, 15], [16]), ([11, 15, 0, 1, 2, 3, 4, 5, 6, 7, 8, 9, 10, 11, 12, 13, 14, 15, 16, 17], [11, 15]), ([18, 17, 0, 1, 2, 3, 4, 5, 6, 7, 8, 9, 10, 11, 12, 13, 14, 15, 16, 17], [18])])
def zone_matrix_free.B3 : List Nat := [0, 1, 3, 7, 0, 0, 0, 112, 0, 256, 768, 1792, 0, 0, 0, 28912, 65535, 131071, 262143, 524287]
theorem zone_matrix_free.tab3 : rtab .any (opsOf Try.f67 3) = zone_matrix_free.T3 := by kernel_rfl
theorem zone_matrix_free.bits3 : waitsOk zone_matrix_free.T3.2 zone_matrix_free.B3 = true := by kernel_rfl
set_option maxHeartbeats 8000000 in
set_option maxRecDepth 100000 in
theorem free_calls (n i : Nat) (hn : n ≤ 8) (hi : i ≤ n) (j c : Int) (g b cap base : Nat) (ok : Nat → Prop) (xs : List Int) (hxs : xs.length = (n + 1) * (n + 1)) (w : World)
  (hbk : w.heap[g]? = some (.cells #[.int .i64 n, .slice (some ⟨b, 0, none⟩) xs.length cap] 87 (0, 0))) (hR : Kd.R (Kd.int .i64) 3 w base ok (.slice (some ⟨b, 0, none⟩) xs.length cap) xs) :
  Calls Try.prog 67 #[.pointer (some ⟨g, 0, none⟩), .int .i64 i, .int .i64 j, .int .i64 c] w fun e w' => e = .returned (.tuple #[]) ∧ Kd.R (Kd.int .i64) 3 w' base ok (.slice (some ⟨b, 0, none⟩) xs.length cap) (freeTo i n xs (n + 1)) ∧
    w'.heap[g]? = some (.cells #[.int .i64 n, .slice (some ⟨b, 0, none⟩) xs.length cap] 87 (0, 0)) ∧ Kept w w' (fun k => k = b) ∧ Below b w w' := by
 have Hxs := Aside0.mk hxs
 have HLT := Aside0.mk (Nat.le_of_lt (Kd.R_lt hR b rfl))
 have NE : Aside0 (g ≠ (⟨b, 0, none⟩ : Addr).block) := ⟨by have h_ := Kd.R_ne hR hbk (by decide); intro e_; exact h_ (by rw [e_]; rfl)⟩
 have HR := Aside0.mk hR
 have BK := Aside0.mk hbk
 have HW := Aside0.mk (Below.refl b w)
 have HK := Aside0.mk (Kept.of_below (Below.refl w.heap.size w) (fun k => k = b))
 have HCap : Aside0 (xs.length ≤ cap) := ⟨(Kd.R_reads' hR).2.1⟩
 have hc0 : w.cell? ⟨g, 0, none⟩ = some (.int .i64 n) := (blk_cell hbk 0).trans rfl
 have hf0 := blk_frozen hbk 0
 clear hR hbk hxs
 go_enter Try.func67, Try.ntmps67
 go_wp2_with fail
 clear hc0 hf0
 go_loopg [14] (n + 1) (fun gg v14 wr => ∃ k : Nat, k ≤ n + 1 ∧ v14 = .int .i64 k ∧ Aside0 (n + 1 - k ≤ gg) ∧ Aside0 (Kd.R (Kd.int .i64) 3 wr base ok (.slice (some ⟨b, 0, none⟩) xs.length cap) (freeTo i n xs k)) ∧ Aside0 (Kept w wr (fun k => k = b)) ∧ Aside0 (Below b w wr) ∧ Aside0 (wr.heap[g]? = some (.cells #[.int .i64 n, .slice (some ⟨b, 0, none⟩) xs.length cap] 87 (0, 0))))
 case atStart => exact ⟨0, by omega, rfl, ⟨by omega⟩, HR, HK, HW, BK⟩
 case round =>
  clear HR HK HW BK
  obtain ⟨k, hk, rfl, HM, HR, HK, HW, BK⟩ := hrel
  by_cases hlt : k < n + 1
  rotate_left
  · have hltz : ¬ (k : Int) < (n : Int) + 1 := by omega
    go_wp2
    go_end0
    obtain rfl : k = n + 1 := by omega
    exact ⟨rfl, HR.out, BK.out, HK.out, HW.out⟩
  have hltz : (k : Int) < (n : Int) + 1 := by omega
  obtain ⟨p, hp⟩ : ∃ p : Nat, p = i * (n + 1) + k := ⟨_, rfl⟩
  obtain ⟨q, hq⟩ : ∃ q : Nat, q = k * (n + 1) + i := ⟨_, rfl⟩
  have hpl : p < xs.length := by
    rw [Hxs.out, hp]
    exact place_lt hi (by omega)
  have hql : q < xs.length := by
    rw [Hxs.out, hq]
    exact place_lt (by omega) hi
  have hp0 : (0 : Int) ≤ (p : Int) := Int.natCast_nonneg _
  have hp1 : (p : Int) < (xs.length : Int) := Int.ofNat_lt.2 hpl
  have hq0 : (0 : Int) ≤ (q : Int) := Int.natCast_nonneg _
  have hq1 : (q : Int) < (xs.length : Int) := Int.ofNat_lt.2 hql
  have HP := Aside0.mk hp
  have HQ := Aside0.mk hq
  clear hp hq hpl hql
  have HLj := Aside0.mk (freeTo_length i n xs k)
  go_wp2_with fail
  have n_ := a_ (Aside0.mk (Kd.R_drew HR.out)) (a_ (Aside0.mk (blk_drew BK.out)) (a_ (Aside0.mk (Kept.drew HK.out)) (Aside0.mk HW.out.drew)))
  clear HR BK HK HW
  obtain ⟨HR, BK, HK, HW⟩ := n_
  refine start_ (n := 20) (S := fun w' => w'.cell? ⟨g, 0, none⟩ = some (.int .i64 n) ∧ w'.cell? ⟨g, 1, none⟩ = some (.slice (some ⟨b, 0, none⟩) xs.length cap)) (ds := [19]) #[false, false, false, false, false, false, false, false, false, false, false, false, false, false, false, false, false, false, false, false] (by kernel_rfl) rfl rfl ⟨(blk_cell BK.out 0).trans rfl, (blk_cell BK.out 1).trans rfl⟩ (fun hHeld => ?_); refine with_tabW zone_matrix_free.tab3 zone_matrix_free.bits3 (fun HT_ HW_ => ?_)
  generalize hwd_ : wr.drew = wd at HR BK HK HW hHeld ⊢
  clear hwd_
  refine pu_ 0 (some 17) ?_
  refine pu_ 1 (some 18) ?_
  refine pu_ 2 (some 19) ?_
  refine pu_ 4 (some 21) ?_
  refine pu_ 5 (some 22) ?_
  refine pu_ 6 (some 23) ?_
  refine pu_ 8 (some 25) ?_
  refine pu_ 9 (some 26) ?_
  refine pu_ 10 (some 27) ?_
  refine pu_ 12 (some 29) ?_
  refine pu_ 13 (some 30) ?_
  refine pu_ 14 (some 31) ?_
  refine take_ (i := 3) (N := some 20) (v := ?_) (a' := ?_) #[true, true, true, true, true, true, true, false, true, true, true, false, true, true, true, false, false, false, false, false] rfl rfl (take_ofW HT_.out HW_.out (by kernel_rfl)) (fun _ _ _ h => h) (Or.inl ⟨by rfl, ?_⟩) hHeld ?_ ?_
  rotate_left
  · rintro w' ⟨s0, s1⟩
    go_simp
    with_reducible rfl
  rotate_left
  · exact AP_
  refine take_ (i := 11) (N := some 28) (v := ?_) (a' := ?_) #[true, true, true, true, true, true, true, false, true, true, true, true, true, true, true, false, false, false, false, false] rfl rfl (take_ofW HT_.out HW_.out (by kernel_rfl)) (fun _ _ _ h => h) (Or.inl ⟨by rfl, ?_⟩) hHeld ?_ ?_
  rotate_left
  · rintro w' ⟨s0, s1⟩
    go_simp
    with_reducible rfl
  rotate_left
  · exact AP_
  refine on_ 7 (some 24) (fun K hK => ?_)
  refine goes_ Try.func74 (by kernel_rfl) rfl #[.pointer (some ⟨g, 0, none⟩), .int .i64 i, .int .i64 k] (by rfl) rfl rfl MP_ ?_
  with_reducible refine (mat_at n i k hn hi ?h2 g b xs.length cap p HP.out _ BK.out).mono ?_
  case h2 => omega
  rintro e w5 ⟨rfl, hb⟩
  refine ⟨_, rfl, ?_⟩
  have n_ := a_ (Aside0.mk (Kd.R_below HR.out hb)) (a_ (Aside0.mk (blk_below BK.out hb)) (a_ (Aside0.mk (Kept.below HK.out hb)) (Aside0.mk (below_then HW.out (Nat.le_trans HLT.out HW.out.size) hb))))
  clear HR BK HK hb HW
  obtain ⟨HR, BK, HK, HW⟩ := n_
  refine hK.out _ _ ⟨(blk_cell BK.out 0).trans rfl, (blk_cell BK.out 1).trans rfl⟩ (fun hHeld => ?_)
  clear hK K
  refine nm_ ?_
  refine on_ 15 (some 32) (fun K hK => ?_)
  refine goes_ Try.func74 (by kernel_rfl) rfl #[.pointer (some ⟨g, 0, none⟩), .int .i64 k, .int .i64 i] (by rfl) rfl rfl MP_ ?_
  with_reducible refine (mat_at n k i hn ?h1 hi g b xs.length cap q HQ.out _ BK.out).mono ?_
  case h1 => omega
  rintro e w6 ⟨rfl, hb⟩
  refine ⟨_, rfl, ?_⟩
  have n_ := a_ (Aside0.mk (Kd.R_below HR.out hb)) (a_ (Aside0.mk (blk_below BK.out hb)) (a_ (Aside0.mk (Kept.below HK.out hb)) (Aside0.mk (below_then HW.out (Nat.le_trans HLT.out HW.out.size) hb))))
  clear HR BK HK hb HW
  obtain ⟨HR, BK, HK, HW⟩ := n_
  refine hK.out _ _ ⟨(blk_cell BK.out 0).trans rfl, (blk_cell BK.out 1).trans rfl⟩ (fun hHeld => ?_)
  clear hK K
  refine nm_ ?_
  obtain ⟨hx13, hf13⟩ := Kd.R_celln 0 HR.out (p : Int) hp0 hp1
  have HP17 := Kd.R_putn HR.out (p : Int) 4398046511104
  rw [Int.toNat_natCast] at hx13 hf13 HP17
  obtain ⟨hx14, hf14⟩ := Kd.R_celln 0 HP17 (q : Int) hq0 hq1
  have HP18 := Kd.R_putn HP17 (q : Int) 4398046511104
  rw [Int.toNat_natCast] at hx14 hf14 HP18
  have HQ18 := Aside0.mk HP18
  clear HP18 HP17
  refine pu_ 16 (some 33) ?_
  refine on_ 17 (none) (fun K hK => ?_)
  refine skip_ (w1 := ?_) (by rfl) rfl ?_ ?_
  rotate_left
  · go_simp
    rfl
  refine hK.out _ _ ⟨(blk_cell (blk_far BK.out NE.out _) 0).trans rfl, (blk_cell (blk_far BK.out NE.out _) 1).trans rfl⟩ (fun hHeld => ?_)
  clear hK K
  refine pu_ 18 (some 34) ?_
  refine last_ (i := 19) (N := none) #[true, true, true, true, true, true, true, true, true, true, true, true, true, true, true, true, true, true, true, true] rfl rfl (one_of HT_.out (by kernel_rfl)) (by decide) (fun K hK => ?_)
  refine skip_ (w1 := ?_) (by rfl) rfl ?_ ?_
  rotate_left
  · go_simp
    rfl
  refine hK.out _ _ ?_
  clear hK K
  refine done_ (done_of HT_.out (by kernel_rfl)) ?_
  go_wp2
  go_roundg (n - k)
  case measure => have := HM.out; omega
  case rel =>
    refine ⟨k + 1, by omega, by go_num, ⟨by omega⟩, ⟨?_⟩, ⟨Kept.setCell (Kept.setCell HK.out (.inl rfl) _) (.inl rfl) _⟩, ⟨(HW.out.setCell (p := ⟨b, p, none⟩) (Nat.le_refl _) _).setCell (p := ⟨b, q, none⟩) (Nat.le_refl _) _⟩, ⟨blk_far (blk_far BK.out NE.out _) NE.out _⟩⟩
    rw [freeTo, ← HP.out, ← HQ.out]
    exact HQ18.out
end Go.Proofs.Ytgeemdpflcefkaa.Y
