import Derived.Test.YtpcpbeklaibdfaaCx0
import Derived.Test.YtpcpbeklaibdfaaCx2
import Derived.Test.YtpcpbeklaibdfaaCx3
namespace Go.Proofs.Ytpcpbeklaibdfaa.C
open Go.RowKit Go.Proofs.YtpcpbeklaibdfaaW.PrintWords Go.Proofs.YtpcpbeklaibdfaaW.PrintLast Go.Proofs.YtpcpbeklaibdfaaW.PrintMore
attribute [local go_sem] max2_int min2_int max_two min_two max_three min_three max_four min_four   -- for this text's walks alone
set_option linter.unusedVariables false
set_option linter.unusedSimpArgs false
/-- May a name begin with it? -/
def letterB (c : Int) : Bool := (decide (97 ≤ c) && decide (c ≤ 122)) || (decide (65 ≤ c) && decide (c ≤ 90)) || c == 95
/-- May it go on with it? -/
def plainB (c : Int) : Bool := letterB c || (decide (48 ≤ c) && decide (c ≤ 57)) || c == 46
def pathB (c : Int) : Bool := plainB c || c == 45 || c == 47
theorem letter_f (c : Int) : prog_letter.f c = some (letterB c) := by
  unfold prog_letter.f letterB
  repeat' split
  all_goals simp_all
  all_goals omega
theorem plain_f (c : Int) : prog_plain.f c = some (plainB c) := by
  unfold prog_plain.f plainB
  rw [letter_f, Option.bind_some]
  cases letterB c
  · repeat' split
    all_goals simp_all
    all_goals omega
  · simp
theorem path_f (c : Int) : prog_path.f c = some (pathB c) := by
  unfold prog_path.f pathB
  rw [plain_f, Option.bind_some]
  cases plainB c
  · repeat' split
    all_goals simp_all
  · simp
theorem letterB_high {c : Int} (h : 128 ≤ c) : letterB c = false := by
  unfold letterB
  simp
  omega
theorem plainB_high {c : Int} (h : 128 ≤ c) : plainB c = false := by
  unfold plainB
  rw [letterB_high h]
  simp
  omega
theorem pathB_high {c : Int} (h : 128 ≤ c) : pathB c = false := by
  unfold pathB
  rw [plainB_high h]
  simp
  omega
def nmF (p : Int → Bool) (s : ByteArray) : Nat → Nat → Bool
  | 0, _ => true
  | m + 1, i => if (i = 0 ∧ letterB (bt s i) = false) ∨ p (bt s i) = false then false else nmF p s m (i + 1)
def nmB (p : Int → Bool) (s : ByteArray) (most : Int) : Bool := nmF p s s.size 0 && (s.toList != ([] : List UInt8) && decide ((s.size : Int) ≤ most))
set_option maxHeartbeats 4000000 in
set_option maxRecDepth 100000 in
theorem named_walk (fid : Nat) (eg : ∀ args w, (callFunc fid args).run Try.prog w = .ok (.enter fid args) w) (p : Int → Bool) (hhi : ∀ c, 128 ≤ c → p c = false)
    (hp : ∀ (W : World) (c : Int), Calls Try.prog fid #[.int .i32 c] W fun e W' => e = .returned (.bool (p c)) ∧ Below W.heap.size W W') (s : ByteArray) (most : Int) (w : World) :
    Calls Try.prog 55 #[.string s, .int .i64 most, .func (.func fid) #[] #[]] w fun e w' => e = .returned (.bool (nmB p s most)) ∧ Below w.heap.size w w' := by
  have EG := Aside0.mk eg
  have HP := Aside0.mk (show ∀ (W : World) (c : Int), Calls Try.prog fid (#[.int .i32 c] ++ #[]) W fun e W' => e = .returned (.bool (p c)) ∧ Below W.heap.size W W' from fun W c => by simpa using hp W c)
  have HH := Aside0.mk hhi
  clear eg hp hhi
  generalize hR : nmB p s most = R
  have HR := Aside0.mk hR
  clear hR
  go_enter Try.func55, Try.ntmps55
  go_wp2
  go_loopw [8] (fun _ wr => ∃ (pos m : Nat), pos + m = s.size ∧ Aside0 (wr.heap[w.heap.size]? = some (.stringIter s pos)) ∧ Aside0 (Below w.heap.size w wr) ∧ Aside0 (nmF p s m pos = nmF p s s.size 0))
    (fun _ wr => s.size - wr.iterPos w.heap.size)
  case atStart =>
    refine ⟨0, s.size, by omega, ⟨?_⟩, ⟨?_⟩, ⟨rfl⟩⟩
    · have := World.iter_heap w s 0
      simpa using this
    · exact (Below.refl _ w).alloc (Nat.le_refl _) _
  case round =>
    obtain ⟨pos, m, hm, HIT, HBW, HD⟩ := hrel
    have hit := HIT.out
    by_cases hpos : pos < s.size
    rotate_left
    · have hnx : ∀ ty, (Instr.next (.pointer (some ⟨w.heap.size, 0, none⟩)) true ty).run Try.prog wr = _ := fun ty => Lib.run_next_end_at wr w.heap.size s pos ty hit hpos
      obtain rfl : m = 0 := by omega
      have hd := HD.out
      rw [nmF] at hd
      have HDD := Aside0.mk hd
      clear HD hd hpos hm
      by_cases hs0 : s.toList = ([] : List UInt8)
      · have hb0 : (s.toList == ([] : List UInt8)) = true := beq_iff_eq.mpr hs0
        have hb1 : (s.toList != ([] : List UInt8)) = false := bne_eq_false_iff_eq.mpr hs0
        have HS1 := Aside0.mk hb1
        go_wp2
        go_ret
        exact ⟨by rw [← HR.out, nmB, ← HDD.out, HS1.out]; rfl, HBW.out⟩
      have hb0 : (s.toList == ([] : List UInt8)) = false := beq_eq_false_iff_ne.mpr hs0
      have hb1 : (s.toList != ([] : List UInt8)) = true := bne_iff_ne.mpr hs0
      have HS1 := Aside0.mk hb1
      by_cases hs1 : (s.size : Int) ≤ most
      · have HS2 := Aside0.mk hs1
        go_wp2
        go_ret
        exact ⟨by rw [← HR.out, nmB, ← HDD.out, HS1.out, decide_eq_true HS2.out]; rfl, HBW.out⟩
      have HS2 := Aside0.mk hs1
      go_wp2
      go_ret
      exact ⟨by rw [← HR.out, nmB, ← HDD.out, HS1.out, decide_eq_false (Int.not_le.mpr HS2.out)]; rfl, HBW.out⟩
    have hnx : ∀ ty, (Instr.next (.pointer (some ⟨w.heap.size, 0, none⟩)) true ty).run Try.prog wr = _ := fun ty => Lib.run_next_any_at wr w.heap.size s pos ty hit hpos
    have hb : ((bt s (pos : Int) = (Utf8.decode s pos).1 ∧ (Utf8.decode s pos).2 = 1 ∧ (Utf8.decode s pos).1 < 128) ∨ (128 ≤ (Utf8.decode s pos).1 ∧ 128 ≤ bt s (pos : Int))) := by
      have h1 := bt_at s (pos : Int) (by simpa using hpos)
      simp only [Int.toNat_natCast] at h1
      by_cases ha : (s[pos]'hpos).toNat < 128
      rotate_left
      · right; have := (decode_high s pos hpos (by omega)).1; rw [← h1]; exact ⟨this, by omega⟩
      left; rw [decode_ascii s pos hpos ha, ← h1]; exact ⟨rfl, rfl, ha⟩
    have hle := decode_le s pos
    generalize (Utf8.decode s pos).1 = c at *
    generalize (Utf8.decode s pos).2 = wd at *
    obtain ⟨m', rfl⟩ : ∃ m', m = m' + 1 := ⟨m - 1, by omega⟩
    have hsz : w.heap.size < wr.heap.size := (Array.getElem?_eq_some_iff.1 hit).1
    have HB2 := Aside0.mk (Lib.below_iterAt HBW.out (k := w.heap.size) (Nat.le_refl _) s (pos + wd))
    have HI2 := Aside0.mk (Lib.iterAt_heap wr w.heap.size s pos (pos + wd) hit)
    have HM := Aside0.mk (show wr.iterPos w.heap.size = pos by simp only [World.iterPos, hit])
    have HSZ := Aside0.mk hsz
    have hE : letterB (bt s (pos : Int)) = letterB c ∧ p (bt s (pos : Int)) = p c ∧ (wd = 1 ∨ p c = false) := by
      rcases hb with ⟨h1, h2, _⟩ | ⟨h1, h2⟩
      · rw [h1]; exact ⟨rfl, rfl, .inl h2⟩
      · have h1' : (128 : Int) ≤ (c : Int) := by omega
        rw [letterB_high h2, letterB_high h1', HH.out _ h2, HH.out _ h1']; exact ⟨rfl, rfl, .inr rfl⟩
    clear hb hle hit HIT HBW
    obtain ⟨e1, e2, e3⟩ := hE
    have hd := HD.out
    rw [nmF, e1, e2] at hd
    clear e1 e2 HD
    have HQ := Aside0.mk (letter_f c)
    by_cases h0 : pos = 0
    rotate_left
    · cases hpc : p c with
      | false =>
        rw [if_pos (.inr hpc)] at hd
        have HDD := Aside0.mk hd
        have HPC := Aside0.mk hpc
        clear hd e3 hpc
        go_wp2_with (first | ((with_reducible refine gate_dst (N := 25) rfl ?_); (try (refine gate_guard (by rfl) ?_; dsimp only)); refine goesG_ (x := .tmp 23) #[] #[.int .i32 c] (EG.out _ _) rfl rfl rfl (by rfl) (by first | rfl | (simp only [List.map_toArray, List.map_cons, List.map_nil]; rfl)) ?_; refine (HP.out _ c).mono ?_; rintro e w6 ⟨he, hb6⟩; rw [HPC.out] at he; subst he; refine ⟨_, rfl, ?_⟩; have n_ := a_ (Aside0.mk (below_then HB2.out (Nat.le_trans (Nat.le_of_lt (blk_lt HI2.out)) (Nat.le_refl _)) hb6)) (Aside0.mk (blk_below HI2.out hb6)); clear HB2 HI2 hb6; obtain ⟨HB2, HI2⟩ := n_))
        go_ret
        exact ⟨by rw [← HR.out, nmB, ← HDD.out]; rfl, HB2.out⟩
      | true =>
        rw [if_neg (by simp [h0, hpc])] at hd
        obtain rfl : wd = 1 := by rcases e3 with h | h; exact h; rw [hpc] at h; cases h
        have HDD := Aside0.mk hd
        have HPC := Aside0.mk hpc
        clear hd e3 hpc
        go_wp2_with (first | ((with_reducible refine gate_dst (N := 25) rfl ?_); (try (refine gate_guard (by rfl) ?_; dsimp only)); refine goesG_ (x := .tmp 23) #[] #[.int .i32 c] (EG.out _ _) rfl rfl rfl (by rfl) (by first | rfl | (simp only [List.map_toArray, List.map_cons, List.map_nil]; rfl)) ?_; refine (HP.out _ c).mono ?_; rintro e w6 ⟨he, hb6⟩; rw [HPC.out] at he; subst he; refine ⟨_, rfl, ?_⟩; have n_ := a_ (Aside0.mk (below_then HB2.out (Nat.le_trans (Nat.le_of_lt (blk_lt HI2.out)) (Nat.le_refl _)) hb6)) (Aside0.mk (blk_below HI2.out hb6)); clear HB2 HI2 hb6; obtain ⟨HB2, HI2⟩ := n_))
        exact ⟨⟨pos + 1, m', by omega, HI2, HB2, HDD⟩, by simp only [World.iterPos, HI2.out]; have := HM.out; simp only [World.iterPos] at this; rw [this]; omega⟩
    subst h0
    simp only [Nat.zero_add] at HB2 HI2
    cases hl : letterB c with
    | false =>
      rw [if_pos (.inl ⟨rfl, hl⟩)] at hd
      have HDD := Aside0.mk hd
      rw [hl] at HQ
      clear hl hd e3
      go_wp2_with (first | ((with_reducible refine gate_callee (f := 82) rfl ?_); (try (refine gate_guard (by rfl) ?_; dsimp only)); refine goesL_ (some 19) rfl rfl Try.func82 (by kernel_rfl) rfl #[.int .i32 c] rfl MP_ ?_; (with_reducible refine (prog_letter.calls c false _ HQ.out).mono ?_); rintro e w5 ⟨rfl, hd5⟩; refine ⟨_, rfl, ?_⟩; have hb5 := Drawn0.below hd5; have n_ := a_ (Aside0.mk (below_then HB2.out (Nat.le_trans (Nat.le_of_lt (blk_lt HI2.out)) (Nat.le_refl _)) hb5)) (Aside0.mk (blk_below HI2.out hb5)); clear HB2 HI2 hd5 hb5; obtain ⟨HB2, HI2⟩ := n_))
      go_ret
      exact ⟨by rw [← HR.out, nmB, ← HDD.out]; rfl, HB2.out⟩
    | true =>
      rw [hl] at HQ
      cases hpc : p c with
      | false =>
        rw [if_pos (.inr hpc)] at hd
        have HDD := Aside0.mk hd
        have HPC := Aside0.mk hpc
        clear hl hd e3 hpc
        go_wp2_with (first | ((with_reducible refine gate_callee (f := 82) rfl ?_); (try (refine gate_guard (by rfl) ?_; dsimp only)); refine goesL_ (some 19) rfl rfl Try.func82 (by kernel_rfl) rfl #[.int .i32 c] rfl MP_ ?_; (with_reducible refine (prog_letter.calls c true _ HQ.out).mono ?_); rintro e w5 ⟨rfl, hd5⟩; refine ⟨_, rfl, ?_⟩; have hb5 := Drawn0.below hd5; have n_ := a_ (Aside0.mk (below_then HB2.out (Nat.le_trans (Nat.le_of_lt (blk_lt HI2.out)) (Nat.le_refl _)) hb5)) (Aside0.mk (blk_below HI2.out hb5)); clear HB2 HI2 hd5 hb5; obtain ⟨HB2, HI2⟩ := n_) | ((with_reducible refine gate_dst (N := 25) rfl ?_); (try (refine gate_guard (by rfl) ?_; dsimp only)); refine goesG_ (x := .tmp 23) #[] #[.int .i32 c] (EG.out _ _) rfl rfl rfl (by rfl) (by first | rfl | (simp only [List.map_toArray, List.map_cons, List.map_nil]; rfl)) ?_; refine (HP.out _ c).mono ?_; rintro e w6 ⟨he, hb6⟩; rw [HPC.out] at he; subst he; refine ⟨_, rfl, ?_⟩; have n_ := a_ (Aside0.mk (below_then HB2.out (Nat.le_trans (Nat.le_of_lt (blk_lt HI2.out)) (Nat.le_refl _)) hb6)) (Aside0.mk (blk_below HI2.out hb6)); clear HB2 HI2 hb6; obtain ⟨HB2, HI2⟩ := n_))
        go_ret
        exact ⟨by rw [← HR.out, nmB, ← HDD.out]; rfl, HB2.out⟩
      | true =>
        rw [if_neg (by simp [hl, hpc])] at hd
        obtain rfl : wd = 1 := by rcases e3 with h | h; exact h; rw [hpc] at h; cases h
        have HDD := Aside0.mk hd
        have HPC := Aside0.mk hpc
        clear hl hd e3 hpc
        go_wp2_with (first | ((with_reducible refine gate_callee (f := 82) rfl ?_); (try (refine gate_guard (by rfl) ?_; dsimp only)); refine goesL_ (some 19) rfl rfl Try.func82 (by kernel_rfl) rfl #[.int .i32 c] rfl MP_ ?_; (with_reducible refine (prog_letter.calls c true _ HQ.out).mono ?_); rintro e w5 ⟨rfl, hd5⟩; refine ⟨_, rfl, ?_⟩; have hb5 := Drawn0.below hd5; have n_ := a_ (Aside0.mk (below_then HB2.out (Nat.le_trans (Nat.le_of_lt (blk_lt HI2.out)) (Nat.le_refl _)) hb5)) (Aside0.mk (blk_below HI2.out hb5)); clear HB2 HI2 hd5 hb5; obtain ⟨HB2, HI2⟩ := n_) | ((with_reducible refine gate_dst (N := 25) rfl ?_); (try (refine gate_guard (by rfl) ?_; dsimp only)); refine goesG_ (x := .tmp 23) #[] #[.int .i32 c] (EG.out _ _) rfl rfl rfl (by rfl) (by first | rfl | (simp only [List.map_toArray, List.map_cons, List.map_nil]; rfl)) ?_; refine (HP.out _ c).mono ?_; rintro e w6 ⟨he, hb6⟩; rw [HPC.out] at he; subst he; refine ⟨_, rfl, ?_⟩; have n_ := a_ (Aside0.mk (below_then HB2.out (Nat.le_trans (Nat.le_of_lt (blk_lt HI2.out)) (Nat.le_refl _)) hb6)) (Aside0.mk (blk_below HI2.out hb6)); clear HB2 HI2 hb6; obtain ⟨HB2, HI2⟩ := n_))
        exact ⟨⟨0 + 1, m', by omega, HI2, HB2, HDD⟩, by simp only [World.iterPos, HI2.out]; have := HM.out; simp only [World.iterPos] at this; rw [this]; omega⟩
end Go.Proofs.Ytpcpbeklaibdfaa.C
