-- WRITTEN BY this session's program wip/ext.py, in print.py's manner
import Derived.Test.YtkailfmehmgolaaDoorRx0
namespace Go.Proofs.YtkailfmehmgolaaDoor.R
open Go.RowKit Go.Proofs.YtkailfmehmgolaaDoorW.PrintWords Go.Proofs.YtkailfmehmgolaaDoorW.PrintLast Go.Proofs.YtkailfmehmgolaaDoorW.PrintMore
attribute [local go_sem] max2_int min2_int max_two min_two max_three min_three max_four min_four   -- for this text's walks alone
set_option linter.unusedVariables false
set_option linter.unusedSimpArgs false

/-! ### ext val_digits: function 56 -/
def dgF (s : ByteArray) : Nat → Nat → Int → Int → Int × Bool
  | 0, _, n, sg => (wrap64 (sg * n), true)
  | m + 1, i, n, sg => if bt s i = 45 ∧ i = 0 then dgF s m (i + 1) n (-1) else if 48 ≤ bt s i ∧ bt s i ≤ 57 then dgF s m (i + 1) (wrap64 (wrap64 (10 * n) + (bt s i - 48))) sg else (0, false)
set_option maxHeartbeats 4000000 in
set_option maxRecDepth 100000 in
theorem digits_walk (s : ByteArray) (hs : s.size ≤ 1000000) (w : World) :
    Calls Tryd.prog 56 #[.string s] w fun e w' => e = .returned (.tuple #[.int .i64 (dgF s s.size 0 0 1).1, .bool (dgF s s.size 0 0 1).2]) ∧ Below w.heap.size w w' := by
  generalize hR : dgF s s.size 0 0 1 = R
  go_enter Tryd.func56, Tryd.ntmps56
  go_wp2
  go_loopw [4, 5] (fun nv sv wr => ∃ (pos m : Nat) (n sg : Int), nv = .int .i64 n ∧ sv = .int .i64 sg ∧ pos + m = s.size ∧ wr.heap[w.heap.size]? = some (.stringIter s pos) ∧ Below w.heap.size w wr ∧ dgF s m pos n sg = R)
    (fun nv sv wr => s.size - wr.iterPos w.heap.size)
  case atStart =>
    refine ⟨0, s.size, 0, 1, rfl, rfl, by omega, ?_, ?_, hR⟩
    · have := World.iter_heap w s 0
      simpa using this
    · exact (Below.refl _ w).alloc (Nat.le_refl _) _
  case round =>
    obtain ⟨pos, m, n, sg, rfl, rfl, hm, hit, hbw, hd⟩ := hrel
    by_cases hp : pos < s.size
    · have hnx : ∀ ty, (Instr.next (.pointer (some ⟨w.heap.size, 0, none⟩)) true ty).run Tryd.prog wr = _ := fun ty => Lib.run_next_any_at wr w.heap.size s pos ty hit hp
      have hb : ((bt s (pos : Int) = (Utf8.decode s pos).1 ∧ (Utf8.decode s pos).2 = 1 ∧ (Utf8.decode s pos).1 < 128) ∨ (128 ≤ (Utf8.decode s pos).1 ∧ 128 ≤ bt s (pos : Int))) := by
        have h1 := bt_at s (pos : Int) (by simpa using hp)
        simp only [Int.toNat_natCast] at h1
        by_cases ha : (s[pos]'hp).toNat < 128
        · left; rw [decode_ascii s pos hp ha, ← h1]; exact ⟨rfl, rfl, ha⟩
        · right; have := (decode_high s pos hp (by omega)).1; rw [← h1]; exact ⟨this, by omega⟩
      have hle := decode_le s pos
      generalize (Utf8.decode s pos).1 = c at *
      generalize (Utf8.decode s pos).2 = wd at *
      obtain ⟨m', rfl⟩ : ∃ m', m = m' + 1 := ⟨m - 1, by omega⟩
      have hsz : w.heap.size < wr.heap.size := (Array.getElem?_eq_some_iff.1 hit).1
      have hbw2 := Lib.below_iterAt hbw (k := w.heap.size) (Nat.le_refl _) s (pos + wd)
      have hit2 := Lib.iterAt_heap wr w.heap.size s pos (pos + wd) hit
      have hms : s.size - (wr.iterAt w.heap.size s (pos + 1)).iterPos w.heap.size < s.size - wr.iterPos w.heap.size := by
        have := Lib.iterAt_heap wr w.heap.size s pos (pos + 1) hit
        simp only [World.iterPos, this, hit]
        omega
      unfold dgF at hd
      by_cases h45 : c = 45 ∧ pos = 0
      · obtain ⟨h1, h2⟩ := h45
        have hb2 : bt s (pos : Int) = 45 ∧ pos = 0 := ⟨by omega, h2⟩
        have hw : wd = 1 := by omega
        rw [if_pos hb2] at hd
        subst h1 hw h2
        go_wp2
        exact ⟨⟨0 + 1, m', n, -1, rfl, rfl, by omega, by simpa using hit2, by simpa using hbw2, hd⟩, by simpa using hms⟩
      · have hb2 : ¬ (bt s (pos : Int) = 45 ∧ pos = 0) := fun h => h45 ⟨by omega, h.2⟩
        rw [if_neg hb2] at hd
        have h45b : (decide ((c : Int) = 45) && decide ((pos : Int) = 0)) = false := by
          rw [Bool.and_eq_false_iff, decide_eq_false_iff_not, decide_eq_false_iff_not]
          by_cases h : c = 45
          · right; intro h0; exact h45 ⟨h, by omega⟩
          · left; omega
        by_cases h48 : 48 ≤ c ∧ c ≤ 57
        · have hw : wd = 1 := by omega
          rw [if_pos (by omega)] at hd
          have hne : ¬ c = 45 := by omega
          obtain ⟨g1, g2⟩ := h48
          have hbc : bt s (pos : Int) = (c : Int) := by omega
          rw [hbc] at hd
          subst hw
          go_wp2
          exact ⟨⟨pos + 1, m', _, sg, rfl, rfl, by omega, hit2, hbw2, hd⟩, hms⟩
        · rw [if_neg (by omega)] at hd
          by_cases hc : c = 45
          · have hp0 : ¬ pos = 0 := fun h => h45 ⟨hc, h⟩
            subst hc
            go_wp2
            go_ret2
            exact ⟨by rw [← hd]; rfl, hbw2⟩
          · by_cases g1 : 48 ≤ c
            · have g2 : ¬ c ≤ 57 := fun h => h48 ⟨g1, h⟩
              go_wp2
              go_ret2
              exact ⟨by rw [← hd]; rfl, hbw2⟩
            · go_wp2
              go_ret2
              exact ⟨by rw [← hd]; rfl, hbw2⟩
    · have hnx : ∀ ty, (Instr.next (.pointer (some ⟨w.heap.size, 0, none⟩)) true ty).run Tryd.prog wr = _ := fun ty => Lib.run_next_end_at wr w.heap.size s pos ty hit hp
      obtain rfl : m = 0 := by omega
      unfold dgF at hd
      go_wp2
      go_ret2
      exact ⟨by rw [← hd]; rfl, hbw⟩
def val_digits.f (a0 : ByteArray) : Option (Int × Bool) := if a0.size ≤ 1000000 then some (dgF a0 a0.size 0 0 1) else none
theorem val_digits.calls (a0 : ByteArray) (r1 : Int) (r2 : Bool) (w : World) (h : val_digits.f a0 = some (r1, r2)) :
    Calls Tryd.prog 56 #[.string a0] w fun e w' => e = .returned (.tuple #[.int .i64 r1, .bool r2]) ∧ Below w.heap.size w w' := by
  unfold val_digits.f at h
  split at h
  · next hs =>
    have h1 := Option.some.inj h
    have := digits_walk a0 hs w
    rw [h1] at this
    exact this
  · cases h

end Go.Proofs.YtkailfmehmgolaaDoor.R
