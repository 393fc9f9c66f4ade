import Derived.Test.YtgeemdpflcefkaaYx0
import Derived.Test.YtgeemdpflcefkaaYx2
import Derived.Test.YtgeemdpflcefkaaYx3
namespace Go.Proofs.Ytgeemdpflcefkaa.Y
open Go.RowKit Go.Proofs.YtgeemdpflcefkaaW.PrintWords Go.Proofs.YtgeemdpflcefkaaW.PrintLast Go.Proofs.YtgeemdpflcefkaaW.PrintMore
attribute [local go_sem] max2_int min2_int max_two min_two max_three min_three max_four min_four   -- for this text's walks alone
set_option linter.unusedVariables false
set_option linter.unusedSimpArgs false
/-- What 'each' makes of a matrix, up to place p. -/
def eachTo (F : List Int → Int → Int → Int) (n : Nat) (xs : List Int) : Nat → List Int
 | 0 => xs
 | p + 1 => (eachTo F n xs p).set p (F (eachTo F n xs p) ((p / (n + 1) : Nat) : Int) ((p % (n + 1) : Nat) : Int))
theorem eachTo_length (F : List Int → Int → Int → Int) (n : Nat) (xs : List Int) : ∀ p, (eachTo F n xs p).length = xs.length
 | 0 => rfl
 | p + 1 => by rw [eachTo, List.length_set, eachTo_length F n xs p]
theorem eachTo_at (F : List Int → Int → Int → Int) (n : Nat) (xs : List Int) (i j : Nat) (hj : j ≤ n) :
  eachTo F n xs (i * (n + 1) + j + 1) = (eachTo F n xs (i * (n + 1) + j)).set (i * (n + 1) + j) (F (eachTo F n xs (i * (n + 1) + j)) (i : Int) (j : Int)) := by
 have h1 : (i * (n + 1) + j) / (n + 1) = i := by
  rw [Nat.add_comm, Nat.mul_comm, Nat.add_mul_div_left _ _ (Nat.succ_pos n), Nat.div_eq_of_lt (by omega), Nat.zero_add]
 have h2 : (i * (n + 1) + j) % (n + 1) = j := by
  rw [Nat.add_comm, Nat.mul_comm, Nat.add_mul_mod_self_left, Nat.mod_eq_of_lt (by omega)]
 rw [eachTo, h1, h2]
theorem place_lt {n i j : Nat} (hi : i ≤ n) (hj : j ≤ n) : i * (n + 1) + j < (n + 1) * (n + 1) := by
 have : i * (n + 1) ≤ n * (n + 1) := Nat.mul_le_mul_right _ hi
 have e1 : (n + 1) * (n + 1) = n * (n + 1) + (n + 1) := Nat.succ_mul _ _
 omega
theorem at_len (n i j : Nat) (hn : n ≤ 8) (hi : i ≤ n) (hj : j ≤ n) (A0 : Option Addr) (len cap : Nat) (ys : List Int) (hys : ys.length = len) (p : Nat) (hp : p = i * (n + 1) + j) (w : World) (hC : Kd.C (Kd.int .i64) w A0 len ys) (hcap : len ≤ cap) :
  Calls Try.prog 86 #[.agg #[.int .i64 n, .slice A0 len cap], .int .i64 i, .int .i64 j] w fun e w' => e = .returned (.int .i64 (p : Int)) ∧ Below w.heap.size w w' := by
 subst hys hp
 refine dbm_grid_at.calls (n : Int) A0 cap ys i j _ w hC hcap ?_
 have hp : i * (n + 1) ≤ 8 * 9 := Nat.mul_le_mul (by omega) (by omega)
 have e1 : wrap64 ((n : Int) + 1) = ((n + 1 : Nat) : Int) := by unfold wrap64; omega
 have e2 : (i : Int) * ((n + 1 : Nat) : Int) = ((i * (n + 1) : Nat) : Int) := by rw [Int.natCast_mul]
 unfold dbm_grid_at.f
 rw [e1, e2]
 generalize i * (n + 1) = p at hp ⊢
 exact congrArg some (by unfold wrap64; omega)
def dbm_grid_each.T7 : Bool × List (List Nat × List Nat) := (true, [([], []), ([0], [0]), ([], []), ([], []), ([], []), ([2, 3, 4], [2, 3, 4]), ([], []), ([], []), ([], []), ([6, 7, 8, 5], [6, 7, 8]), ([1, 5, 0, 1, 2, 3, 4, 5, 6, 7, 8, 9], [1, 5]), ([10, 9, 9, 0, 1, 2, 3, 4, 5, 6, 7, 8, 9], [9, 10])])
def dbm_grid_each.B7 : List Nat := [0, 1, 0, 0, 0, 28, 0, 0, 0, 508, 1023, 2047]
theorem dbm_grid_each.tab7 : rtab .any (opsOf Try.f109 7) = dbm_grid_each.T7 := by kernel_rfl
theorem dbm_grid_each.bits7 : waitsOk dbm_grid_each.T7.2 dbm_grid_each.B7 = true := by kernel_rfl
set_option maxHeartbeats 8000000 in
set_option maxRecDepth 100000 in
theorem each_calls (fid : Nat) (lb : Array Value) (eg : ∀ args w, (callFunc fid args).run Try.prog w = .ok (.enter fid args) w) (n : Nat) (hn : n ≤ 8) (b cap base : Nat) (ok : Nat → Prop)
  (xs : List Int) (F : List Int → Int → Int → Int) (w : World) (hxs : xs.length = (n + 1) * (n + 1))
  (hR : Kd.R (Kd.int .i64) 3 w base ok (.slice (some ⟨b, 0, none⟩) xs.length cap) xs)
  (hf : ∀ (W : World) (ys : List Int) (i j : Nat), i ≤ n → j ≤ n → ys.length = xs.length → Kept w W (fun k => k = b) → Kd.R (Kd.int .i64) 3 W base ok (.slice (some ⟨b, 0, none⟩) xs.length cap) ys →
    Calls Try.prog fid (#[.int .i64 i, .int .i64 j] ++ lb) W fun e W' => e = .returned (.int .i64 (F ys i j)) ∧ Below W.heap.size W W') :
  Calls Try.prog 109 #[.agg #[.int .i64 n, .slice (some ⟨b, 0, none⟩) xs.length cap], .func (.func fid) #[] lb] w fun e w' =>
    e = .returned (.tuple #[]) ∧ Kd.R (Kd.int .i64) 3 w' base ok (.slice (some ⟨b, 0, none⟩) xs.length cap) (eachTo F n xs ((n + 1) * (n + 1))) ∧ Kept w w' (fun k => k = b) ∧ Below b w w' := by
 have Hxs := Aside0.mk hxs
 clear hxs
 have Hf := Aside0.mk hf
 clear hf
 have HR := Aside0.mk hR
 have HLT := Aside0.mk (Nat.le_of_lt (Kd.R_lt hR b rfl))
 clear hR
 have EG := Aside0.mk eg
 clear eg
 go_enter Try.func109, Try.ntmps109
 go_wp2_with ((with_reducible refine gate_dst (N := 2) rfl ?_); refine bx_ (N := 2) (cs := #[.int .i64 n, .slice (some ⟨b, 0, none⟩) xs.length cap]) (t := 94) ?_; intro gb hg w1 hbox hb; have BK := Aside0.mk hbox; have HB := Aside0.mk hb; have HG := Aside0.mk hg; have hc0 : w1.cell? ⟨gb, 0, none⟩ = some (.int .i64 n) := (blk_cell hbox 0).trans rfl; clear hbox hb hg)
 go_loopg [9] (n + 1) (fun gg v9 wr => ∃ i : Nat, i ≤ n + 1 ∧ v9 = .int .i64 i ∧ Aside0 (n + 1 - i ≤ gg) ∧ Aside0 (Kd.R (Kd.int .i64) 3 wr base ok (.slice (some ⟨b, 0, none⟩) xs.length cap) (eachTo F n xs (i * (n + 1)))) ∧ Aside0 (Kept w wr (fun k => k = b)) ∧ Aside0 (Below b w wr) ∧ Aside0 (wr.heap[gb]? = some (.cells #[.int .i64 n, .slice (some ⟨b, 0, none⟩) xs.length cap] 94 (0, 0))))
 case atStart =>
  refine ⟨0, by omega, rfl, ⟨by omega⟩, ⟨?_⟩, ⟨Kept.of_below HB.out _⟩, ⟨HB.out.mono HLT.out⟩, BK⟩
  rw [Nat.zero_mul]
  exact Kd.R_below HR.out HB.out
 case round =>
  clear hc0 BK HB HR
  obtain ⟨i, hi, rfl, HM, HRi, HKi, HWi, BKi⟩ := hrel
  have hc0 : wr.cell? ⟨gb, 0, none⟩ = some (.int .i64 n) := (blk_cell BKi.out 0).trans rfl
  by_cases hlt : i < n + 1
  rotate_left
  · have hltz : ¬ (i : Int) < (n : Int) + 1 := by omega
    go_wp2
    go_end0
    obtain rfl : i = n + 1 := by omega
    exact ⟨rfl, HRi.out, HKi.out, HWi.out⟩
  have hltz : (i : Int) < (n : Int) + 1 := by omega
  go_wp2
  obtain ⟨wo, rfl⟩ : ∃ wo : World, wo = wr := ⟨_, rfl⟩
  go_loopg [15] (n + 1) (fun gg v15 wr => ∃ j : Nat, j ≤ n + 1 ∧ v15 = .int .i64 j ∧ Aside0 (n + 1 - j ≤ gg) ∧ Aside0 (Kd.R (Kd.int .i64) 3 wr base ok (.slice (some ⟨b, 0, none⟩) xs.length cap) (eachTo F n xs (i * (n + 1) + j))) ∧ Aside0 (Kept w wr (fun k => k = b)) ∧ Aside0 (Below b w wr) ∧ Aside0 (wr.heap[gb]? = some (.cells #[.int .i64 n, .slice (some ⟨b, 0, none⟩) xs.length cap] 94 (0, 0))))
  case atStart => exact ⟨0, by omega, rfl, ⟨by omega⟩, HRi, HKi, HWi, BKi⟩
  case round =>
    clear hc0 HRi HKi BKi HWi
    obtain ⟨j, hj, rfl, HMj, HRj, HKj, HWj, BKj⟩ := hrel
    by_cases hltj : j < n + 1
    rotate_left
    · have hltjz : ¬ (j : Int) < (n : Int) + 1 := by omega
      go_wp2
      go_roundg (n - i)
      case measure => have := HM.out; omega
      case rel =>
       refine ⟨i + 1, by omega, by go_num, ⟨by omega⟩, ⟨?_⟩, HKj, HWj, BKj⟩
       obtain rfl : j = n + 1 := by omega
       rw [Nat.succ_mul]
       exact HRj.out
    have hltjz : (j : Int) < (n : Int) + 1 := by omega
    obtain ⟨p, hp⟩ : ∃ p : Nat, p = i * (n + 1) + j := ⟨_, rfl⟩
    rw [← hp] at HRj
    have hpl : p < xs.length := by
      rw [Hxs.out, hp]
      exact place_lt (by omega) (by omega)
    have hp0 : (0 : Int) ≤ (p : Int) := Int.natCast_nonneg _
    have hp1 : (p : Int) < (xs.length : Int) := Int.ofNat_lt.2 hpl
    have HP := Aside0.mk hp
    clear hp
    have HLj := Aside0.mk (eachTo_length F n xs p)
    have HCap : Aside0 (xs.length ≤ cap) := ⟨(Kd.R_reads' HRj.out).2.1⟩
    go_wp2_with fail
    have n0_ := Aside0.mk (Kd.R_drew HRj.out)
    have n1_ := Aside0.mk (blk_drew BKj.out)
    have n2_ := Aside0.mk (Kept.drew HKj.out)
    have n3_ := Aside0.mk (HWj.out.drew)
    clear HRj BKj HKj HWj
    have HWj := n3_
    clear n3_
    have HRj := n0_
    have BKj := n1_
    have HKj := n2_
    clear n0_ n1_ n2_
    refine start_ (n := 12) (S := fun w' => w'.cell? ⟨gb, 0, none⟩ = some (.int .i64 n) ∧ w'.cell? ⟨gb, 1, none⟩ = some (.slice (some ⟨b, 0, none⟩) xs.length cap)) (ds := [11]) #[false, false, false, false, false, false, false, false, false, false, false, false] (by kernel_rfl) rfl rfl ⟨(blk_cell BKj.out 0).trans rfl, (blk_cell BKj.out 1).trans rfl⟩ (fun hHeld => ?_); refine with_tabW dbm_grid_each.tab7 dbm_grid_each.bits7 (fun HT_ HW_ => ?_)
    generalize hwd_ : wr.drew = wd at HRj BKj HKj HWj hHeld ⊢
    clear hwd_
    refine pu_ 0 (some 18) ?_
    refine pu_ 3 (some 21) ?_
    refine pu_ 4 (some 22) ?_
    refine pu_ 6 (some 24) ?_
    refine pu_ 7 (some 25) ?_
    refine pu_ 8 (some 26) ?_
    refine take_ (i := 1) (N := some 19) (v := ?_) (a' := ?_) #[true, true, false, true, true, false, true, true, true, false, false, false] rfl rfl (take_ofW HT_.out HW_.out (by kernel_rfl)) (fun _ _ _ h => h) (Or.inl ⟨by rfl, ?_⟩) hHeld ?_ ?_
    rotate_left
    · rintro w' ⟨s0, s1⟩
      go_simp
      with_reducible rfl
    rotate_left
    · exact AP_
    refine take_ (i := 2) (N := some 20) (v := ?_) (a' := ?_) #[true, true, true, true, true, false, true, true, true, false, false, false] rfl rfl (take_ofW HT_.out HW_.out (by kernel_rfl)) (fun _ _ _ h => h) (Or.inl ⟨by rfl, ?_⟩) hHeld ?_ ?_
    rotate_left
    · rintro w' ⟨s0, s1⟩
      go_simp
      with_reducible rfl
    rotate_left
    · exact AP_
    refine on_ 5 (some 23) (fun K hK => ?_)
    refine goes_ Try.func86 (by kernel_rfl) rfl #[.agg #[.int .i64 n, .slice (some ⟨b, 0, none⟩) xs.length cap], .int .i64 i, .int .i64 j] (by rfl) rfl rfl MP_ ?_
    with_reducible refine (at_len n i j hn ?h1 ?h2 (some ⟨b, 0, none⟩) xs.length cap _ HLj.out p HP.out _ ?h3 HCap.out).mono ?_
    case h1 => omega
    case h2 => omega
    case h3 =>
      have h := (Kd.R_reads' HRj.out).2.2
      rwa [HLj.out] at h
    rintro e w5 ⟨rfl, hb⟩
    refine ⟨_, rfl, ?_⟩
    have n0_ := Aside0.mk (Kd.R_below HRj.out hb)
    have n1_ := Aside0.mk (blk_below BKj.out hb)
    have n2_ := Aside0.mk (Kept.below HKj.out hb)
    have n3_ := Aside0.mk (below_then HWj.out (Nat.le_trans HLT.out HWj.out.size) hb)
    clear HRj BKj HKj hb HWj
    have HWj := n3_
    clear n3_
    have HRj := n0_
    have BKj := n1_
    have HKj := n2_
    clear n0_ n1_ n2_
    refine hK.out _ _ ⟨(blk_cell BKj.out 0).trans rfl, (blk_cell BKj.out 1).trans rfl⟩ (fun hHeld => ?_)
    clear hK K
    refine nm_ ?_
    refine on_ 9 (some 27) (fun K hK => ?_)
    refine goesV_ lb #[.int .i64 i, .int .i64 j] (EG.out _ _) (by rfl) rfl rfl (by rfl) (by (try simp only [List.map_toArray, List.map_cons, List.map_nil]); first | done | rfl) ?_
    with_reducible refine (Hf.out _ (eachTo F n xs p) i j ?h1 ?h2 HLj.out HKj.out HRj.out).mono ?_
    case h1 => omega
    case h2 => omega
    rintro e w6 ⟨rfl, hb⟩
    refine ⟨_, rfl, ?_⟩
    have n0_ := Aside0.mk (Kd.R_below HRj.out hb)
    have n1_ := Aside0.mk (blk_below BKj.out hb)
    have n2_ := Aside0.mk (Kept.below HKj.out hb)
    have n3_ := Aside0.mk (below_then HWj.out (Nat.le_trans HLT.out HWj.out.size) hb)
    clear HRj BKj HKj hb HWj
    have HWj := n3_
    clear n3_
    have HRj := n0_
    have BKj := n1_
    have HKj := n2_
    clear n0_ n1_ n2_
    obtain ⟨hx13, hf13⟩ := Kd.R_celln 0 HRj.out (p : Int) hp0 hp1
    have HP17 := Kd.R_putn HRj.out (p : Int) (F (eachTo F n xs p) i j)
    rw [Int.toNat_natCast] at hx13 hf13 HP17
    have HQ17 := Aside0.mk HP17
    clear HP17
    refine hK.out _ _ ⟨(blk_cell BKj.out 0).trans rfl, (blk_cell BKj.out 1).trans rfl⟩ (fun hHeld => ?_)
    clear hK K
    refine nm_ ?_
    refine pu_ 10 (some 28) ?_
    refine last_ (i := 11) (N := none) #[true, true, true, true, true, true, true, true, true, true, true, true] rfl rfl (one_of HT_.out (by kernel_rfl)) (by decide) (fun K hK => ?_)
    refine skip_ (w1 := ?_) (by rfl) rfl ?_ ?_
    rotate_left
    · go_simp
      rfl
    refine hK.out _ _ ?_
    clear hK K
    refine done_ (done_of HT_.out (by kernel_rfl)) ?_
    go_wp2
    go_roundg (n - j)
    case measure => have := HMj.out; omega
    case rel =>
      refine ⟨j + 1, by omega, by go_num, ⟨by omega⟩, ⟨?_⟩, ⟨Kept.setCell HKj.out (.inl rfl) _⟩, ⟨HWj.out.setCell (p := ⟨b, p, none⟩) (Nat.le_refl _) _⟩, ⟨blk_far BKj.out (by have h_ := Kd.R_ne HRj.out BKj.out (by decide); intro e_; exact h_ (by rw [e_]; rfl)) _⟩⟩
      have e2 := eachTo_at F n xs i j (by omega)
      rw [← HP.out] at e2
      rw [← Nat.add_assoc, ← HP.out, e2]
      exact HQ17.out
end Go.Proofs.Ytgeemdpflcefkaa.Y
