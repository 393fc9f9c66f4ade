import Derived.Test.YtgeemdpflcefkaaYx0
import Derived.Test.YtgeemdpflcefkaaYx4
import Derived.Test.YtgeemdpflcefkaaYx5
import Derived.Test.YtgeemdpflcefkaaYx6
namespace Go.Proofs.Ytgeemdpflcefkaa.Y
open Go.RowKit Go.Proofs.YtgeemdpflcefkaaW.PrintWords Go.Proofs.YtgeemdpflcefkaaW.PrintLast Go.Proofs.YtgeemdpflcefkaaW.PrintMore
attribute [local go_sem] max2_int min2_int max_two min_two max_three min_three max_four min_four   -- for this text's walks alone
set_option linter.unusedVariables false
set_option linter.unusedSimpArgs false
/-- The matrix behind k rounds. -/
def closeTo (n : Nat) (xs : List Int) : Nat → List Int
 | 0 => eachTo (F1 n) n xs ((n + 1) * (n + 1))
 | k + 1 => eachTo (F2 n k) n (closeTo n xs k) ((n + 1) * (n + 1))
theorem closeTo_length (n : Nat) (xs : List Int) : ∀ k, (closeTo n xs k).length = xs.length
 | 0 => eachTo_length _ _ _ _
 | k + 1 => by rw [closeTo, eachTo_length, closeTo_length n xs k]
/-- Is there no way round below 0? -/
def closeOk (n : Nat) (xs : List Int) : Bool := (List.range (n + 1)).all fun i => !decide (rd (closeTo n xs (n + 1)) ((i * (n + 1) + i : Nat) : Int) < 0)
theorem closeOk_true {n : Nat} {xs : List Int} (h : ∀ i, i < n + 1 → ¬ rd (closeTo n xs (n + 1)) ((i * (n + 1) + i : Nat) : Int) < 0) : closeOk n xs = true := by
 unfold closeOk
 rw [List.all_eq_true]
 intro i hi
 have := h i (List.mem_range.1 hi)
 simpa using this
theorem closeOk_false {n : Nat} {xs : List Int} {i : Nat} (hi : i < n + 1) (h : rd (closeTo n xs (n + 1)) ((i * (n + 1) + i : Nat) : Int) < 0) : closeOk n xs = false := by
 cases hc : closeOk n xs with
 | false => rfl
 | true =>
  unfold closeOk at hc
  rw [List.all_eq_true] at hc
  have := hc i (List.mem_range.2 hi)
  rw [decide_eq_true h] at this
  cases this
def dbm_grid_close.T10 : Bool × List (List Nat × List Nat) := (true, [([], []), ([0], [0]), ([], []), ([], []), ([], []), ([2, 3, 4], [2, 3, 4]), ([1, 5], [1, 5]), ([6], [6]), ([7], [7])])
def dbm_grid_close.B10 : List Nat := [0, 1, 0, 0, 0, 28, 63, 127, 255]
theorem dbm_grid_close.tab10 : rtab .any (opsOf Try.f111 10) = dbm_grid_close.T10 := by kernel_rfl
theorem dbm_grid_close.bits10 : waitsOk dbm_grid_close.T10.2 dbm_grid_close.B10 = true := by kernel_rfl
set_option maxHeartbeats 8000000 in
set_option maxRecDepth 100000 in
theorem close_calls (n : Nat) (hn : n ≤ 8) (b cap base : Nat) (ok : Nat → Prop) (xs : List Int) (w : World) (hxs : xs.length = (n + 1) * (n + 1)) (hR : Kd.R (Kd.int .i64) 3 w base ok (.slice (some ⟨b, 0, none⟩) xs.length cap) xs) :
  Calls Try.prog 111 #[.agg #[.int .i64 n, .slice (some ⟨b, 0, none⟩) xs.length cap]] w fun e w' =>
    e = .returned (.bool (closeOk n xs)) ∧ Kd.R (Kd.int .i64) 3 w' base ok (.slice (some ⟨b, 0, none⟩) xs.length cap) (closeTo n xs (n + 1)) ∧ Kept w w' (fun k => k = b) ∧ Below b w w' := by
 have hmf : ∀ (fn : Fn) (first cap : Array Value) (w : World), (Instr.makeFunc fn first cap).run Try.prog w = .ok (.func fn first cap) w := fun _ _ _ _ => rfl
 have Hxs := Aside0.mk hxs
 clear hxs
 have HR := Aside0.mk hR
 have HLT := Aside0.mk (Nat.le_of_lt (Kd.R_lt hR b rfl))
 clear hR
 go_enter Try.func111, Try.ntmps111
 go_wp2_with (first | ((with_reducible refine gate_dst (N := 1) rfl ?_); refine bx_ (N := 1) (cs := #[.int .i64 n, .slice (some ⟨b, 0, none⟩) xs.length cap]) (t := 94) ?_; intro gb hg w1 hbox hb; have BK := Aside0.mk hbox; have HRb := Aside0.mk (Kd.R_below HR.out hb); have HB := Aside0.mk (Kept.of_below hb (fun k => k = b)); have HW := Aside0.mk (hb.mono HLT.out); have HG := Aside0.mk (show w.heap.size ≤ gb by rw [hg]; exact Nat.le_refl _); have hc0 : w1.cell? ⟨gb, 0, none⟩ = some (.int .i64 n) := (blk_cell hbox 0).trans rfl; have hc1 : w1.cell? ⟨gb, 1, none⟩ = some (.slice (some ⟨b, 0, none⟩) xs.length cap) := (blk_cell hbox 1).trans rfl; clear hbox hb hg HR) | fail)
 have hne : gb ≠ b := by
  have h_ := Kd.R_ne HRb.out BK.out (by decide)
  intro e_
  exact h_ (by rw [e_]; rfl)
 have HN := Aside0.mk hne
 clear hne
 refine (each_calls 118 #[.pointer (some ⟨gb, 0, none⟩)] (fun args w => enters_ Try.func118 (by kernel_rfl) rfl args w) n hn b cap base ok xs (F1 n) w1 Hxs.out HRb.out ?hf1).mono ?_
 case hf1 =>
  intro W ys i j hi hj hl hk hr
  exact close1_calls n i j hn hi hj gb b cap base ok ys (hl.trans Hxs.out) W (by rw [hl]; exact blk_kept BK.out hk HN.out) (by rw [hl]; exact hr)
 rintro e w2 ⟨rfl, hR2, hK2, hW2⟩
 have n0_ := Aside0.mk (blk_kept BK.out hK2 HN.out)
 have n1_ := Aside0.mk (Kept.then_ HB.out hK2 (fun k hk => .inl hk))
 have HR2 := Aside0.mk hR2
 have n2_ := Aside0.mk (HW.out.trans hW2)
 clear BK HB HW hR2 hK2 hW2 hc0 hc1 HRb
 have HW := n2_
 clear n2_
 have BK := n0_
 have HB := n1_
 clear n0_ n1_
 have hc0 : w2.cell? ⟨gb, 0, none⟩ = some (.int .i64 n) := (blk_cell BK.out 0).trans rfl
 go_wp2
 go_loopg [11] (n + 1) (fun gg v11 wr => ∃ k : Nat, k ≤ n + 1 ∧ v11 = .int .i64 k ∧ Aside0 (n + 1 - k ≤ gg) ∧ Aside0 (Kd.R (Kd.int .i64) 3 wr base ok (.slice (some ⟨b, 0, none⟩) xs.length cap) (closeTo n xs k)) ∧ Aside0 (Kept w wr (fun k => k = b)) ∧ Aside0 (Below b w wr) ∧ Aside0 (wr.heap[gb]? = some (.cells #[.int .i64 n, .slice (some ⟨b, 0, none⟩) xs.length cap] 94 (0, 0))))
 case atStart => exact ⟨0, by omega, rfl, ⟨by omega⟩, HR2, HB, HW, BK⟩
 case round =>
  clear hc0 BK HB HW HR2
  obtain ⟨k, hk, rfl, HM, HRk, HB, HW, BK⟩ := hrel
  have hc0 : wr.cell? ⟨gb, 0, none⟩ = some (.int .i64 n) := (blk_cell BK.out 0).trans rfl
  by_cases hlt : k < n + 1
  · have hltz : (k : Int) < (n : Int) + 1 := by omega
    have hc0' : ∀ o : Obj, (wr.alloc o).cell? ⟨gb, 0, none⟩ = some (.int .i64 n) := fun o => (blk_cell (blk_alloc BK.out o) 0).trans rfl
    have hc1' : ∀ o : Obj, (wr.alloc o).cell? ⟨gb, 1, none⟩ = some (.slice (some ⟨b, 0, none⟩) xs.length cap) := fun o => (blk_cell (blk_alloc BK.out o) 1).trans rfl
    go_wp2_with fail
    have HKB := Aside0.mk (show (wr.alloc (.cells #[.int .i64 k] 3)).heap[wr.heap.size]? = some (.cells #[.int .i64 k] 3 (0, 0)) by simpa using heap_alloc_new wr _)
    have HL := Aside0.mk (closeTo_length n xs k)
    have HRa := Aside0.mk (Kd.R_alloc HRk.out (.cells #[.int .i64 k] 3))
    have BKa := Aside0.mk (blk_alloc BK.out (.cells #[.int .i64 k] 3))
    have HWa := Aside0.mk (below_then HW.out (Nat.le_trans HLT.out HW.out.size) (below_alloc (Below.refl _ _) (.cells #[.int .i64 k] 3)))
    have HBa := Aside0.mk (Kept.alloc HB.out (.cells #[.int .i64 k] 3))
    have HKN := Aside0.mk (show wr.heap.size ≠ b from by
      have h_ := Kd.R_lt HRk.out b rfl
      omega)
    obtain ⟨kb, hkb⟩ : ∃ kb, kb = wr.heap.size := ⟨_, rfl⟩
    rw [← hkb] at HKB HKN ⊢
    clear hkb hc0' hc1' hc0
    generalize wr.alloc (.cells #[.int .i64 k] 3) = wa at HKB HRa BKa HBa HWa ⊢
    clear HRk BK HB HW
    have hea := each_calls 119 #[.pointer (some ⟨gb, 0, none⟩), .pointer (some ⟨kb, 0, none⟩)] (fun args w => enters_ Try.func119 (by kernel_rfl) rfl args w) n hn b cap base ok (closeTo n xs k) (F2 n k) wa (HL.out.trans Hxs.out) (by rw [HL.out]; exact HRa.out) (by
      intro W ys i j hi hj hl hk2 hr
      rw [HL.out] at hl hr
      exact close2_calls n i j k hn hi hj (by omega) gb kb b cap base ok ys (hl.trans Hxs.out) W (by rw [hl]; exact blk_kept BKa.out hk2 HN.out) (blk_kept HKB.out hk2 HKN.out) (by rw [hl]; exact hr))
    rw [HL.out] at hea
    refine hea.mono ?_
    clear hea
    rintro e w3 ⟨rfl, hR3, hK3, hW3⟩
    have n0_ := Aside0.mk (blk_kept BKa.out hK3 HN.out)
    have n1_ := Aside0.mk (Kept.then_ HBa.out hK3 (fun k hk => .inl hk))
    have HR3 := Aside0.mk hR3
    have n2_ := Aside0.mk (HWa.out.trans hW3)
    clear BKa HBa hR3 hK3 HRa HWa hW3
    go_wp2
    go_roundg (n - k)
    case measure => have := HM.out; omega
    case rel => exact ⟨k + 1, by omega, by go_num, ⟨by omega⟩, HR3, n1_, n2_, n0_⟩
  have hltz : ¬ (k : Int) < (n : Int) + 1 := by omega
  obtain rfl : k = n + 1 := by omega
  have HL := Aside0.mk (closeTo_length n xs (n + 1))
  have Hne := Aside0.mk (trivial : True)
  go_wp2
  go_loopg [21] (n + 1) (fun gg v21 wr => ∃ i : Nat, i ≤ n + 1 ∧ v21 = .int .i64 i ∧ Aside0 (n + 1 - i ≤ gg) ∧ Aside0 (∀ j, j < i → ¬ rd (closeTo n xs (n + 1)) ((j * (n + 1) + j : Nat) : Int) < 0) ∧ Aside0 (Kd.R (Kd.int .i64) 3 wr base ok (.slice (some ⟨b, 0, none⟩) xs.length cap) (closeTo n xs (n + 1))) ∧ Aside0 (Kept w wr (fun k => k = b)) ∧ Aside0 (Below b w wr) ∧ Aside0 (wr.heap[gb]? = some (.cells #[.int .i64 n, .slice (some ⟨b, 0, none⟩) xs.length cap] 94 (0, 0))))
  case atStart => exact ⟨0, by omega, rfl, ⟨by omega⟩, ⟨fun j hj => absurd hj (Nat.not_lt_zero _)⟩, HRk, HB, HW, BK⟩
  case round =>
    clear hc0 BK HB HW HRk
    obtain ⟨i, hi, rfl, HM, HNo, HRk, HB, HW, BK⟩ := hrel
    by_cases hlti : i < n + 1
    rotate_left
    · have hltiz : ¬ (i : Int) < (n : Int) + 1 := by omega
      go_wp2
      go_ret
      obtain rfl : i = n + 1 := by omega
      refine ⟨?_, HRk.out, HB.out, HW.out⟩
      rw [closeOk_true (fun j hj => by have h := HNo.out j hj; omega)]
      rfl
    have hltiz : (i : Int) < (n : Int) + 1 := by omega
    obtain ⟨p, hp⟩ : ∃ p : Nat, p = i * (n + 1) + i := ⟨_, rfl⟩
    have hpl : p < xs.length := by
      rw [Hxs.out, hp]
      exact place_lt (by omega) (by omega)
    have hp0 : (0 : Int) ≤ (p : Int) := Int.natCast_nonneg _
    have hp1 : (p : Int) < (xs.length : Int) := Int.ofNat_lt.2 hpl
    have HP := Aside0.mk hp
    clear hp hpl
    obtain ⟨hx, _⟩ := Kd.R_celln 0 HRk.out (p : Int) hp0 hp1
    rw [Int.toNat_natCast] at hx
    have HX := Aside0.mk (show wr.cell? ⟨b, p, none⟩ = some (.int .i64 (rd (closeTo n xs (n + 1)) (p : Int))) from hx)
    clear hx
    have HV : Aside0 (rd (closeTo n xs (n + 1)) ((i * (n + 1) + i : Nat) : Int) = rd (closeTo n xs (n + 1)) (p : Int)) := ⟨by rw [HP.out]⟩
    generalize rd (closeTo n xs (n + 1)) (p : Int) = x at HX HV
    have HC : Aside0 (Kd.C (Kd.int .i64) wr (some ⟨b, 0, none⟩) xs.length (closeTo n xs (n + 1))) := ⟨by
      have h := (Kd.R_reads' HRk.out).2.2
      rwa [HL.out] at h⟩
    have HCap : Aside0 (xs.length ≤ cap) := ⟨(Kd.R_reads' HRk.out).2.1⟩
    go_wp2_with fail
    have n0_ := Aside0.mk (blk_drew BK.out)
    have n1_ : Aside0 (wr.drew.cell? ⟨b, p, none⟩ = some (.int .i64 x)) := ⟨by have h := HX.out; first | (go_simp; done) | (go_simp; exact h)⟩
    have n2_ := Aside0.mk (Kept.drew HB.out)
    have n3_ := Aside0.mk (Kd.C_drew HC.out)
    have n4_ := Aside0.mk (Kd.R_drew HRk.out)
    have n5_ := Aside0.mk (HW.out.drew)
    clear BK HX HB HC HRk HW
    have HW := n5_
    clear n5_
    have BK := n0_
    have HX := n1_
    have HB := n2_
    have HC := n3_
    have HRk := n4_
    clear n0_ n1_ n2_ n3_ n4_
    refine start_ (n := 9) (S := fun w' => w'.cell? ⟨gb, 0, none⟩ = some (.int .i64 n) ∧ w'.cell? ⟨gb, 1, none⟩ = some (.slice (some ⟨b, 0, none⟩) xs.length cap) ∧ w'.cell? ⟨b, p, none⟩ = some (.int .i64 x)) (ds := []) #[false, false, false, false, false, false, false, false, false] (by kernel_rfl) rfl rfl ⟨(blk_cell BK.out 0).trans rfl, (blk_cell BK.out 1).trans rfl, HX.out⟩ (fun hHeld => ?_); refine with_tabW dbm_grid_close.tab10 dbm_grid_close.bits10 (fun HT_ HW_ => ?_)
    generalize hwd_ : wr.drew = wd at BK HX HB HC HRk HW hHeld ⊢
    clear hwd_
    refine pu_ 0 (some 24) ?_
    refine pu_ 3 (some 27) ?_
    refine pu_ 4 (some 28) ?_
    refine take_ (i := 1) (N := some 25) (v := ?_) (a' := ?_) #[true, true, false, true, true, false, false, false, false] rfl rfl (take_ofW HT_.out HW_.out (by kernel_rfl)) (fun _ _ _ h => h) (Or.inl ⟨by rfl, ?_⟩) hHeld ?_ ?_
    rotate_left
    · rintro w' ⟨s0, s1, s2⟩
      go_simp
      with_reducible rfl
    rotate_left
    · exact AP_
    refine take_ (i := 2) (N := some 26) (v := ?_) (a' := ?_) #[true, true, true, true, true, false, false, false, false] rfl rfl (take_ofW HT_.out HW_.out (by kernel_rfl)) (fun _ _ _ h => h) (Or.inl ⟨by rfl, ?_⟩) hHeld ?_ ?_
    rotate_left
    · rintro w' ⟨s0, s1, s2⟩
      go_simp
      with_reducible rfl
    rotate_left
    · exact AP_
    refine on_ 5 (some 29) (fun K hK => ?_)
    refine goes_ Try.func86 (by kernel_rfl) rfl #[.agg #[.int .i64 n, .slice (some ⟨b, 0, none⟩) xs.length cap], .int .i64 i, .int .i64 i] (by rfl) rfl rfl MP_ ?_
    with_reducible refine (at_len n i i hn ?h1 ?h2 (some ⟨b, 0, none⟩) xs.length cap _ HL.out p HP.out _ HC.out HCap.out).mono ?_
    case h1 => omega
    case h2 => omega
    rintro e w5 ⟨rfl, hb⟩
    refine ⟨_, rfl, ?_⟩
    have n0_ := Aside0.mk (blk_below BK.out hb)
    have n1_ := Aside0.mk (pw_cell_below hb HX.out)
    have n2_ := Aside0.mk (Kept.below HB.out hb)
    have n4_ := Aside0.mk (Kd.R_below HRk.out hb)
    have n5_ := Aside0.mk (below_then HW.out (Nat.le_trans HLT.out HW.out.size) hb)
    clear BK HX HB hb HRk HC HW
    have HW := n5_
    clear n5_
    have BK := n0_
    have HX := n1_
    have HB := n2_
    have HRk := n4_
    clear n0_ n1_ n2_ n4_
    refine hK.out _ _ ⟨(blk_cell BK.out 0).trans rfl, (blk_cell BK.out 1).trans rfl, HX.out⟩ (fun hHeld => ?_)
    clear hK K
    refine nm_ ?_
    refine pu_ 6 (some 30) ?_
    refine take_ (i := 7) (N := some 31) (v := ?_) (a' := ?_) #[true, true, true, true, true, true, true, true, false] rfl rfl (take_ofW HT_.out HW_.out (by kernel_rfl)) (fun _ _ _ h => h) (Or.inl ⟨by rfl, ?_⟩) hHeld ?_ ?_
    rotate_left
    · rintro w' ⟨s0, s1, s2⟩
      go_simp
      with_reducible rfl
    rotate_left
    · exact AP_
    refine pu_ 8 (some 32) ?_
    refine done_ (done_of HT_.out (by kernel_rfl)) ?_
    by_cases hneg : x < 0
    · have hd : decide (x < 0) = true := decide_eq_true hneg
      go_wp2
      go_ret
      refine ⟨?_, HRk.out, HB.out, HW.out⟩
      rw [closeOk_false (i := i) (by omega) (by rw [HV.out]; exact hneg)]
      rfl
    have hd : decide (x < 0) = false := decide_eq_false hneg
    go_wp2
    go_roundg (n - i)
    case measure => have := HM.out; omega
    case rel =>
      refine ⟨i + 1, by omega, by go_num, ⟨by omega⟩, ⟨fun j hj => ?_⟩, HRk, HB, HW, BK⟩
      by_cases e : j = i
      rotate_left
      · have h := HNo.out j (by omega)
        omega
      subst e
      rw [HV.out]
      exact hneg
def dbm_grid_close.f (a0_0 : Int) (l0_1 : List Int) : Option (Bool × List Int) :=
 if 0 ≤ a0_0 ∧ a0_0 ≤ 8 ∧ l0_1.length = (a0_0.toNat + 1) * (a0_0.toNat + 1) then some (closeOk a0_0.toNat l0_1, closeTo a0_0.toNat l0_1 (a0_0.toNat + 1)) else none
theorem dbm_grid_close.calls (a0_0 : Int) (P0_1_ : Nat → Prop) (u9000_ : Value) (l0_1 : List Int) (r1 : Bool) (r2 : List Int) (w0 w : World) (hB : Below w0.heap.size w0 w) (ho0_1 : Kd.R (Kd.int .i64) 3 w w0.heap.size P0_1_ u9000_ l0_1) (h : dbm_grid_close.f a0_0 l0_1 = some (r1, r2)) :
   Calls Try.prog 111 #[.agg #[.int .i64 a0_0, u9000_]] w fun e w' => e = .returned (.bool r1) ∧ Kd.R (Kd.int .i64) 3 w' w0.heap.size (fun k_ => (P0_1_ k_ ∨ w.heap.size ≤ k_)) u9000_ r2 ∧ Below w0.heap.size w0 w' ∧ Kept w w' (fun k_ => P0_1_ k_) := by
 unfold dbm_grid_close.f at h
 by_cases hc : 0 ≤ a0_0 ∧ a0_0 ≤ 8 ∧ l0_1.length = (a0_0.toNat + 1) * (a0_0.toNat + 1)
 rotate_left
 · rw [if_neg hc] at h
   cases h
 rw [if_pos hc] at h
 obtain ⟨h1, h2, h3⟩ := hc
 obtain ⟨n, rfl⟩ : ∃ n : Nat, a0_0 = (n : Int) := ⟨a0_0.toNat, by omega⟩
 rw [Int.toNat_natCast] at h h3
 simp only [Option.some.injEq, Prod.mk.injEq] at h
 obtain ⟨rfl, rfl⟩ := h
 obtain ⟨b, cap, rfl, hb, hlt, _⟩ := Kd.R_form ho0_1 (by rw [h3, Nat.succ_mul]; omega)
 have hP : P0_1_ b := ho0_1.1 b rfl
 refine (close_calls n (by omega) b cap w0.heap.size _ l0_1 w h3 ho0_1).mono ?_
 rintro e w' ⟨he, hR, hK, hW⟩
 refine ⟨he, Kd.R_mono hR (fun k hk => .inl hk), ?_, Kept.mono hK (fun k hk => by rw [hk]; exact hP)⟩
 exact hB.trans (hW.mono hb)
end Go.Proofs.Ytgeemdpflcefkaa.Y
