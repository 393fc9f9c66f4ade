/- chapter 13: what the reference's check of a program comes to: the same as the program's own. -/
import Derived.RowKit
import Derived.Test.YtpcpbeklaibdfaaCx0
import Derived.Test.YtpcpbeklaibdfaaCx4
import Derived.Test.YtpcpbeklaibdfaaCx8
import Derived.Test.YtpcpbeklaibdfaaCx13
import Derived.Test.YtpcpbeklaibdfaaCx18
import Derived.Test.YtpcpbeklaibdfaaCx19
import Derived.Test.YtpcpbeklaibdfaaCx23
import Derived.Test.YtpcpbeklaibdfaaCx38
import Derived.Test.YtpcpbeklaibdfaaCx39
import Derived.Test.YtpcpbeklaibdfaaCx40
import Derived.Test.YtpcpbeklaibdfaaCx41
import Derived.Test.YtpcpbeklaibdfaaCx42
import Derived.Test.YtpcpbeklaibdfaaCx43
set_option linter.unusedVariables false
set_option linter.unusedSimpArgs false
namespace Go.Proofs.Ytpcpbeklaibdfaa.RunEv
open Go.RowKit Go.Proofs.Ytpcpbeklaibdfaa.C Go.Proofs.YtpcpbeklaibdfaaW.PrintWords Go.Proofs.YtpcpbeklaibdfaaW.PrintLast
def Ev {α : Type} (g : Nat → Option α) (r : α) : Prop := ∃ k0, ∀ k, k0 ≤ k → g k = some r
theorem Ev.const {α} {a : Option α} {r : α} (h : a = some r) : Ev (fun _ => a) r := ⟨0, fun _ _ => h⟩
theorem Ev.bind {α β} {g : Nat → Option α} {h : Nat → α → Option β} {a : α} {r : β} (hg : Ev g a) (hh : Ev (fun k => h k a) r) : Ev (fun k => (g k).bind (h k)) r := by
  obtain ⟨k1, h1⟩ := hg
  obtain ⟨k2, h2⟩ := hh
  refine ⟨max k1 k2, fun k hk => ?_⟩
  simp only [h1 k (by omega), Option.bind_some]
  exact h2 k (by omega)
theorem Ev.succ {α} {g b : Nat → Option α} {r : α} (h : ∀ k, g (k + 1) = b k) (hb : Ev b r) : Ev g r := by
  obtain ⟨k0, h0⟩ := hb
  refine ⟨k0 + 1, fun k hk => ?_⟩
  obtain ⟨j, rfl⟩ : ∃ j, k = j + 1 := ⟨k - 1, by omega⟩
  rw [h]
  exact h0 j (by omega)
theorem Ev.get {α} {g : Nat → Option α} {r : α} (h : Ev g r) : ∃ k, g k = some r := by
  obtain ⟨k0, h0⟩ := h
  exact ⟨k0, h0 k0 (Nat.le_refl _)⟩
theorem Ev.ofMono {α} {g : Nat → Option α} {r : α} (hm : ∀ k, LeO (g k) (g (k + 1))) {K : Nat} (h : g K = some r) : Ev g r :=
  ⟨K, fun k hk => by
    obtain ⟨m, rfl⟩ : ∃ m, k = K + m := ⟨k - K, by omega⟩
    clear hk
    induction m with
    | zero => exact h
    | succ m ih => exact hm _ _ ih⟩
theorem w64 {x : Int} (h : -9223372036854775808 ≤ x) (h' : x ≤ 9223372036854775807) : wrap64 x = x := by unfold wrap64; omega
theorem ev_lives : Ev (fun k => warrantorlaw13_lives.f k) true := Ev.ofMono warrantorlaw13_lives.mono (K := 40) (by decide +kernel)
/-! names -/
theorem rletter_f (c : Int) : warrantorref11_letter.f c = some (letterB c) := letter_f c
theorem rmore_f (c : Int) : warrantorref11_more.f c = some (plainB c) := plain_f c
/-- All bytes from a place on. -/
def allB (p : Int → Bool) (s : ByteArray) : Nat → Nat → Bool
  | 0, _ => true
  | m + 1, i => p (bt s i) && allB p s m (i + 1)
theorem nmF_succ (p : Int → Bool) (s : ByteArray) : ∀ (m i : Nat), nmF p s m (i + 1) = allB p s m (i + 1)
  | 0, _ => rfl
  | m + 1, i => by
    rw [nmF, allB, nmF_succ p s m (i + 1)]
    cases p (bt s ((i + 1 : Nat) : Int)) <;> simp
theorem nmF_zero (p : Int → Bool) (s : ByteArray) (hs : 0 < s.size) : nmF p s s.size 0 = (letterB (bt s 0) && allB p s s.size 0) := by
  obtain ⟨m, hm⟩ : ∃ m, s.size = m + 1 := ⟨s.size - 1, by omega⟩
  rw [hm, nmF, allB, nmF_succ]
  have e : ((0 : Nat) : Int) = 0 := rfl
  rw [e]
  cases letterB (bt s 0) <;> cases p (bt s 0) <;> simp
theorem toList_loop (s : ByteArray) : ∀ (m i : Nat) (r : List UInt8), i + m = s.size → ByteArray.toList.loop s i r = r.reverse ++ s.data.toList.drop i := by
  intro m
  induction m with
  | zero =>
    intro i r h
    rw [ByteArray.toList.loop, if_neg (by omega), List.drop_eq_nil_of_le (by rw [Array.length_toList]; show s.size ≤ i; omega), List.append_nil]
  | succ m ih =>
    intro i r h
    have hi : i < s.data.toList.length := by rw [Array.length_toList]; show i < s.size; omega
    rw [ByteArray.toList.loop, if_pos (by omega), ih (i + 1) _ (by omega), List.drop_eq_getElem_cons hi]
    have hi2 : i < s.data.size := by simpa using hi
    have e : s.get! i = s.data.toList[i] := by
      show s.data[i]! = _
      rw [getElem!_pos s.data i hi2, Array.getElem_toList]
    rw [e]
    simp
theorem toList_data (s : ByteArray) : s.toList = s.data.toList := by
  have h := toList_loop s s.size 0 [] (by omega)
  unfold ByteArray.toList
  rw [h]
  rfl
theorem toList_nil (s : ByteArray) (h : s.size = 0) : s.toList = [] := by
  rw [toList_data]
  exact List.eq_nil_of_length_eq_zero (by rw [Array.length_toList]; exact h)
theorem size_nil (s : ByteArray) (h : s.toList = []) : s.size = 0 := by
  rw [toList_data] at h
  have := congrArg List.length h
  rw [Array.length_toList] at this
  exact this
/-- What Name and File come to. -/
def nmR (p : Int → Bool) (s : ByteArray) (most : Nat) : Bool := allB p s s.size 0 && (decide (0 < s.size) && (decide (s.size ≤ most) && letterB (bt s 0)))
theorem nmB_R (p : Int → Bool) (s : ByteArray) (most : Nat) : nmB p s most = nmR p s most := by
  unfold nmB nmR
  rcases Nat.eq_zero_or_pos s.size with h | h
  · rw [h, toList_nil s h]
    simp
  · rw [nmF_zero p s h]
    have : (s.toList != ([] : List UInt8)) = true := bne_iff_ne.mpr (fun e => by have := size_nil s e; omega)
    rw [this, decide_eq_true h]
    simp only [Bool.true_and]
    have e : decide ((s.size : Int) ≤ (most : Int)) = decide (s.size ≤ most) := by simp
    rw [e]
    cases letterB (bt s 0) <;> cases allB p s s.size 0 <;> cases decide (s.size ≤ most) <;> rfl
theorem ev_Name0 (s : ByteArray) (hs : s.size ≤ 1000000) : ∀ (m i : Nat), i + m = s.size → Ev (fun k => warrantorref11_Name.l0 k s (i : Int)) (allB plainB s m i && (decide (0 < s.size) && (decide (s.size ≤ 32) && letterB (bt s 0))))
  | 0, i, hi => by
    refine Ev.succ (fun k => by rw [warrantorref11_Name.l0]) ?_
    simp only [if_neg (show ¬ (i : Int) < (s.size : Int) by omega)]
    rw [allB, Bool.true_and]
    refine Ev.const ?_
    by_cases h0 : (s.size : Int) > 0
    · rw [if_pos h0, decide_eq_true (show 0 < s.size by omega), Bool.true_and]
      by_cases h1 : (s.size : Int) ≤ 32
      · rw [if_pos h1, if_pos h0, decide_eq_true (show s.size ≤ 32 by omega), rletter_f]; rfl
      · rw [if_neg h1, decide_eq_false (show ¬ s.size ≤ 32 by omega)]; rfl
    · rw [if_neg h0, decide_eq_false (show ¬ 0 < s.size by omega)]; rfl
  | m + 1, i, hi => by
    refine Ev.succ (fun k => by rw [warrantorref11_Name.l0]) ?_
    simp only [if_pos (show (i : Int) < (s.size : Int) by omega), if_pos (Int.natCast_nonneg i), rmore_f, Option.bind_some]
    rw [allB]
    cases hp : plainB (bt s (i : Int)) with
    | false => exact Ev.const rfl
    | true =>
      simp only [if_true, Bool.true_and]
      rw [w64 (by omega) (by omega)]
      exact ev_Name0 s hs m (i + 1) (by omega)
theorem ev_Name (s : ByteArray) (hs : s.size ≤ 1000000) : Ev (fun k => warrantorref11_Name.f k s) (nmB plainB s 32) := by
  have e : nmB plainB s 32 = nmR plainB s 32 := nmB_R plainB s 32
  rw [e]
  exact ev_Name0 s hs s.size 0 (by omega)
theorem ev_File0 (s : ByteArray) (hs : s.size ≤ 1000000) : ∀ (m i : Nat), i + m = s.size → Ev (fun k => warrantorref11_File.l0 k s (i : Int)) (allB pathB s m i && (decide (0 < s.size) && (decide (s.size ≤ 64) && letterB (bt s 0))))
  | 0, i, hi => by
    refine Ev.succ (fun k => by rw [warrantorref11_File.l0]) ?_
    simp only [if_neg (show ¬ (i : Int) < (s.size : Int) by omega)]
    rw [allB, Bool.true_and]
    refine Ev.const ?_
    by_cases h0 : (s.size : Int) > 0
    · rw [if_pos h0, decide_eq_true (show 0 < s.size by omega), Bool.true_and]
      by_cases h1 : (s.size : Int) ≤ 64
      · rw [if_pos h1, if_pos h0, decide_eq_true (show s.size ≤ 64 by omega), rletter_f]; rfl
      · rw [if_neg h1, decide_eq_false (show ¬ s.size ≤ 64 by omega)]; rfl
    · rw [if_neg h0, decide_eq_false (show ¬ 0 < s.size by omega)]; rfl
  | m + 1, i, hi => by
    refine Ev.succ (fun k => by rw [warrantorref11_File.l0]) ?_
    simp only [if_pos (show (i : Int) < (s.size : Int) by omega), if_pos (Int.natCast_nonneg i), rmore_f, Option.bind_some]
    rw [allB, pathB]
    have ih := ev_File0 s hs m (i + 1) (by omega)
    rw [w64 (by omega) (by omega)]
    cases hp : plainB (bt s (i : Int)) with
    | true => simpa using ih
    | false =>
      by_cases h1 : bt s (i : Int) = 45
      · simpa [h1] using ih
      · by_cases h2 : bt s (i : Int) = 47
        · simpa [h2] using ih
        · simp only [h1, h2, if_false, Bool.false_eq_true]
          exact Ev.const (by simp [h1, h2])
theorem ev_File (s : ByteArray) (hs : s.size ≤ 1000000) : Ev (fun k => warrantorref11_File.f k s) (nmB pathB s 64) := by
  have e : nmB pathB s 64 = nmR pathB s 64 := nmB_R pathB s 64
  rw [e]
  exact ev_File0 s hs s.size 0 (by omega)
theorem toList_inj (s r : ByteArray) : s.toList = r.toList ↔ s.data.toList = r.data.toList := by rw [toList_data, toList_data]
/-! variables -/
theorem rdOf_at (l : List ByteArray) (i : Nat) (h : i < l.length) : rdOf ByteArray.empty l (i : Int) = l[i] := by simp [rdOf, List.getD_eq_getElem?_getD, List.getElem?_eq_getElem h]
theorem mem_pre (l : List ByteArray) (i : Nat) (u : List UInt8) : u ∈ preB l i ↔ u ∈ wordsB ∨ ∃ j, j < i ∧ ∃ h : j < l.length, l[j].data.toList = u := by
  unfold preB
  rw [List.mem_append, List.mem_map]
  constructor
  · rintro (h | ⟨s, hs, rfl⟩)
    · exact .inl h
    · obtain ⟨j, hj, rfl⟩ := List.getElem_of_mem hs
      rw [List.length_take] at hj
      exact .inr ⟨j, by omega, by omega, by rw [List.getElem_take]⟩
  · rintro (h | ⟨j, hj, hl, rfl⟩)
    · exact .inl h
    · exact .inr ⟨l[j], List.mem_of_getElem? (by rw [List.getElem?_take_of_lt hj, List.getElem?_eq_getElem hl]), rfl⟩
theorem ev_Vars1 (l : List ByteArray) (hl : l.length ≤ 1000) (i : Nat) (hi : i < l.length) (r : Bool) (hgo : Ev (fun k => warrantorref11_Vars.l0 k l ((i + 1 : Nat) : Int)) r) : ∀ (m j : Nat), j + m = i → (∀ q, q < j → ∀ h : q < l.length, l[q].data.toList ≠ l[i].data.toList) →
    Ev (fun k => warrantorref11_Vars.l1 k l (i : Int) (j : Int)) (if ∃ q, q < i ∧ ∃ h : q < l.length, l[q].data.toList = l[i].data.toList then false else r)
  | 0, j, hj, hq => by
    obtain rfl : j = i := by omega
    refine Ev.succ (fun k => by rw [warrantorref11_Vars.l1]) ?_
    simp only [if_neg (show ¬ (j : Int) < (j : Int) by omega)]
    rw [w64 (by omega) (by omega), if_neg (by rintro ⟨q, h1, h2, h3⟩; exact hq q h1 h2 h3)]
    exact hgo
  | m + 1, j, hj, hq => by
    refine Ev.succ (fun k => by rw [warrantorref11_Vars.l1]) ?_
    simp only [if_pos (show (j : Int) < (i : Int) by omega), if_pos (Int.natCast_nonneg j), if_pos (show (j : Int) < (l.length : Int) by omega), if_pos (Int.natCast_nonneg i), if_pos (show (i : Int) < (l.length : Int) by omega)]
    rw [rdOf_at l i hi, rdOf_at l j (by omega)]
    by_cases h : l[j].toList = l[i].toList
    · simp only [if_pos h]
      rw [if_pos ⟨j, by omega, by omega, (toList_inj _ _).1 h⟩]
      exact Ev.const rfl
    · simp only [if_neg h]
      rw [w64 (by omega) (by omega)]
      refine ev_Vars1 l hl i hi r hgo m (j + 1) (by omega) (fun q hq1 hq2 => ?_)
      by_cases e : q = j
      · subst e; exact fun h2 => h ((toList_inj _ _).2 h2)
      · exact hq q (by omega) hq2
theorem ev_Vars0 (l : List ByteArray) (hl : l.length ≤ 1000) (hs : ∀ s ∈ l, s.size ≤ 1000000) : ∀ (m i : Nat), i + m = l.length → Ev (fun k => warrantorref11_Vars.l0 k l (i : Int)) (vrF (preB l i) (l.drop i))
  | 0, i, hi => by
    refine Ev.succ (fun k => by rw [warrantorref11_Vars.l0]) ?_
    simp only [if_neg (show ¬ (i : Int) < (l.length : Int) by omega)]
    rw [List.drop_of_length_le (by omega), vrF]
    exact Ev.const rfl
  | m + 1, i, hi => by
    have hlt : i < l.length := by omega
    refine Ev.succ (fun k => by rw [warrantorref11_Vars.l0]) ?_
    simp only [if_pos (show (i : Int) < (l.length : Int) by omega), if_pos (Int.natCast_nonneg i)]
    rw [rdOf_at l i hlt, List.drop_eq_getElem_cons hlt, vrF, ← preB_succ l i hlt]
    have ih := ev_Vars0 l hl hs m (i + 1) (by omega)
    have h1 := ev_Vars1 l hl i hlt _ ih i 0 (by omega) (fun q hq => absurd hq (by omega))
    have hW : ∀ u ∈ wordsB, l[i].toList = u → (if nmB plainB l[i] 32 = true ∧ ¬ l[i].data.toList ∈ preB l i then vrF (preB l (i + 1)) (l.drop (i + 1)) else false) = false := fun u hu e => by
      rw [if_neg (fun h => h.2 ((mem_pre l i _).2 (.inl (by rw [← toList_data, e]; exact hu))))]
    by_cases a1 : l[i].toList = ([115, 107, 105, 112] : List UInt8)
    · simp only [if_pos a1]; rw [hW _ (by simp [wordsB]) a1]; exact Ev.const rfl
    by_cases a2 : l[i].toList = ([97, 110, 121] : List UInt8)
    · simp only [if_neg a1, if_pos a2]; rw [hW _ (by simp [wordsB]) a2]; exact Ev.const rfl
    by_cases a3 : l[i].toList = ([108, 105, 109, 105, 116] : List UInt8)
    · simp only [if_neg a1, if_neg a2, if_pos a3]; rw [hW _ (by simp [wordsB]) a3]; exact Ev.const rfl
    by_cases a4 : l[i].toList = ([99, 104, 101, 99, 107] : List UInt8)
    · simp only [if_neg a1, if_neg a2, if_neg a3, if_pos a4]; rw [hW _ (by simp [wordsB]) a4]; exact Ev.const rfl
    by_cases a5 : l[i].toList = ([105, 110, 102] : List UInt8)
    · simp only [if_neg a1, if_neg a2, if_neg a3, if_neg a4, if_pos a5]; rw [hW _ (by simp [wordsB]) a5]; exact Ev.const rfl
    simp only [if_neg a1, if_neg a2, if_neg a3, if_neg a4, if_neg a5]
    refine Ev.bind (ev_Name l[i] (hs _ (List.getElem_mem hlt))) ?_
    have hnw : ¬ l[i].data.toList ∈ wordsB := by
      rw [← toList_data]
      simp only [wordsB, List.mem_cons, List.not_mem_nil, or_false]
      rintro (h | h | h | h | h)
      · exact a1 h
      · exact a2 h
      · exact a3 h
      · exact a4 h
      · exact a5 h
    cases hn : nmB plainB l[i] 32 with
    | false => exact Ev.const (by simp)
    | true =>
      simp only [if_true, true_and]
      have e : (¬ l[i].data.toList ∈ preB l i) ↔ ¬ ∃ q, q < i ∧ ∃ h : q < l.length, l[q].data.toList = l[i].data.toList := by
        rw [mem_pre]
        constructor
        · exact fun h h2 => h (.inr h2)
        · rintro h (h2 | h2)
          · exact hnw h2
          · exact h h2
      by_cases hq : ∃ q, q < i ∧ ∃ h : q < l.length, l[q].data.toList = l[i].data.toList
      · rw [if_pos hq] at h1
        rw [if_neg (fun h => (e.1 h) hq)]
        exact h1
      · rw [if_neg hq] at h1
        rw [if_pos (e.2 hq)]
        exact h1
theorem ev_Vars (l : List ByteArray) (hl : l.length ≤ 1000) (hs : ∀ s ∈ l, s.size ≤ 1000000) : Ev (fun k => warrantorref11_Vars.f k l) (varsB l) := by
  unfold warrantorref11_Vars.f varsB
  by_cases h : (l.length : Int) > 8
  · simp only [if_pos h]
    rw [decide_eq_false (by omega), Bool.and_false]
    exact Ev.const rfl
  · simp only [if_neg h]
    rw [decide_eq_true (by omega), Bool.and_true]
    exact ev_Vars0 l hl hs l.length 0 (by omega)
/-! statements -/
theorem ris_f (c : Int) : warrantorref06_Is.f c = some (isB c) := by
  unfold warrantorref06_Is.f isB mn mx
  by_cases h1 : c ≥ (-1099511627776)
  · rw [if_pos h1]
    by_cases h2 : c ≤ 1099511627776
    · rw [decide_eq_true h2]
      congr 1
      symm
      rw [beq_iff_eq]
      repeat' split
      all_goals omega
    · rw [decide_eq_false h2]
      congr 1
      symm
      rw [beq_eq_false_iff_ne]
      repeat' split
      all_goals omega
  · rw [if_neg h1]
    congr 1
    symm
    rw [beq_eq_false_iff_ne]
    repeat' split
    all_goals omega
theorem isB_iff (c : Int) : isB c = true ↔ -1099511627776 ≤ c ∧ c ≤ 1099511627776 := by
  have h := ris_f c
  unfold warrantorref06_Is.f at h
  by_cases h1 : c ≥ (-1099511627776)
  · rw [if_pos h1] at h
    have h := Option.some.inj h
    rw [← h, decide_eq_true_eq]
    omega
  · rw [if_neg h1] at h
    have h := Option.some.inj h
    rw [← h]
    simp
    omega
theorem ev_Right (f0 f1 f2 f3 f4 n : Int) : Ev (fun k => warrantorref11_Right.f k f0 f1 f2 f3 f4 n) (rightB f0 f1 f2 f3 f4 n) := by
  unfold warrantorref11_Right.f rightB
  by_cases hn : n < 0
  · simp only [if_pos hn]
    have e : someB n 8 = false := by simp [someB]; omega
    rw [e]
    refine Ev.succ (fun k => by rw [warrantorref11_Right.j0]) ?_
    exact Ev.const rfl
  · simp only [if_neg hn]
    refine Ev.succ (fun k => by rw [warrantorref11_Right.j0]) ?_
    by_cases h8 : n > 8
    · have e : someB n 8 = false := by simp [someB]; omega
      rw [e, decide_eq_true h8]
      exact Ev.const rfl
    · have e : someB n 8 = true := by simp [someB]; omega
      rw [e, decide_eq_false h8]
      simp only [Bool.false_eq_true, if_false, Bool.true_and, ris_f, Option.bind_some]
      have key : ∀ x y : Bool, x = oneB f1 n → y = oneB f2 n → Ev (fun k => warrantorref11_Right.j1 k x y (isB f3) f0 f1 f2 f3 f4) (oneB f0 5 && (if f0 = 1 then k2B f0 f1 f2 f3 f4 else if f0 = 2 then k3B f1 f2 f3 f4 n else if f0 = 3 then k4B f1 f2 f3 f4 n else k1B f1 f2 f3 f4 n)) := by
        intro x y hx hy
        refine Ev.succ (fun k => by rw [warrantorref11_Right.j1]) ?_
        simp only [ris_f, Option.bind_some]
        refine Ev.const ?_
        have hs1 : someB f1 n = (x || f1 == 0) := by
          rw [hx]
          by_cases h : f1 = 0
          · subst h; simp [someB]; omega
          · have : (0 ≤ f1) = (1 ≤ f1) := by apply propext; omega
            simp [someB, oneB, h, this]
        have hs2 : someB f2 n = (y || f2 == 0) := by
          rw [hy]
          by_cases h : f2 = 0
          · subst h; simp [someB]; omega
          · have : (0 ≤ f2) = (1 ≤ f2) := by apply propext; omega
            simp [someB, oneB, h, this]
        by_cases c1 : f0 = 1
        · subst c1; simp [oneB, k2B]
        · by_cases c2 : f0 = 2
          · subst c2
            simp only [k3B, ← hx, hs2]
            cases x <;> cases y <;> cases isB f3 <;> by_cases z2 : f2 = 0 <;> simp [oneB, z2]
          · by_cases c3 : f0 = 3
            · subst c3
              simp only [k4B, ← hx]
              cases x <;> cases isB f3 <;> cases isB f4 <;> by_cases z2 : f2 = 0 <;> simp [oneB, z2]
            · by_cases c4 : f0 = 4
              · subst c4
                simp only [k1B, hs1, hs2]
                by_cases z3 : f1 = f2
                · subst z3
                  simp only [if_true]
                  cases x <;> cases y <;> cases isB f3 <;> by_cases z1 : f1 = 0 <;> simp [oneB, z1]
                · simp only [if_neg z3]
                  cases x <;> cases y <;> cases isB f3 <;> by_cases z1 : f1 = 0 <;> by_cases z2 : f2 = 0 <;> simp [oneB, z1, z2]
              · by_cases c5 : f0 = 5
                · subst c5
                  simp only [k1B, hs1, hs2]
                  by_cases z3 : f1 = f2
                  · subst z3
                    simp only [if_true]
                    cases x <;> cases y <;> cases isB f3 <;> by_cases z1 : f1 = 0 <;> simp [oneB, z1]
                  · simp only [if_neg z3]
                    cases x <;> cases y <;> cases isB f3 <;> by_cases z1 : f1 = 0 <;> by_cases z2 : f2 = 0 <;> simp [oneB, z1, z2]
                · have e5 : oneB f0 5 = false := by simp [oneB]; omega
                  rw [e5]
                  simp [c1, c2, c3, c4, c5]
      by_cases h1 : f1 ≥ 1
      · by_cases h2 : f2 ≥ 1
        · simp only [if_pos h1, if_pos h2]
          exact key _ _ (by simp [oneB, show 1 ≤ f1 from h1]) (by simp [oneB, show 1 ≤ f2 from h2])
        · simp only [if_pos h1, if_neg h2]
          exact key _ _ (by simp [oneB, show 1 ≤ f1 from h1]) (by simp [oneB, show ¬ 1 ≤ f2 from h2])
      · by_cases h2 : f2 ≥ 1
        · simp only [if_neg h1, if_pos h2]
          exact key _ _ (by simp [oneB, show ¬ 1 ≤ f1 from h1]) (by simp [oneB, show 1 ≤ f2 from h2])
        · simp only [if_neg h1, if_neg h2]
          exact key _ _ (by simp [oneB, show ¬ 1 ≤ f1 from h1]) (by simp [oneB, show ¬ 1 ≤ f2 from h2])
/-! the check -/
theorem rd53_at (l : List S53) (i : Nat) (h : i < l.length) : rd_T53 l (i : Int) = l[i] := by simp [rd_T53, List.getD_eq_getElem?_getD, List.getElem?_eq_getElem h]
theorem rd57_at (l : List S57) (i : Nat) (h : i < l.length) : rd_T57 l (i : Int) = l[i] := by simp [rd_T57, List.getD_eq_getElem?_getD, List.getElem?_eq_getElem h]
/-- What is small enough to be looked at. -/
structure Small (a : ByteArray) (l1 : List ByteArray) (l2 : List S53) (l3 : List S57) : Prop where
  n0 : a.size ≤ 100
  n1 : l1.length ≤ 20
  n2 : l2.length ≤ 150
  n3 : l3.length ≤ 300
  s1 : ∀ s ∈ l1, s.size ≤ 100
  s2 : ∀ s ∈ l2, s.f0.size ≤ 100 ∧ s.f1.size ≤ 100
theorem ev_Check1 {a : ByteArray} {l1 : List ByteArray} {l2 : List S53} {l3 : List S57} (h : Small a l1 l2 l3) : ∀ (m i : Nat), i + m = l3.length → Ev (fun k => warrantorref11_Check.l1 k (l2.length : Int) (i : Int) a l1 l2 l3) (!((l3.drop i).any (oddB l2.length l1.length)))
  | 0, i, hi => by
    refine Ev.succ (fun k => by rw [warrantorref11_Check.l1]) ?_
    simp only [if_neg (show ¬ (i : Int) < (l3.length : Int) by omega)]
    rw [List.drop_of_length_le (by omega)]
    exact Ev.const rfl
  | m + 1, i, hi => by
    have hlt : i < l3.length := by omega
    have hn3 := h.n3
    have hn2 := h.n2
    refine Ev.succ (fun k => by rw [warrantorref11_Check.l1]) ?_
    simp only [if_pos (show (i : Int) < (l3.length : Int) by omega), if_pos (Int.natCast_nonneg i)]
    rw [rd57_at l3 i hlt, List.drop_eq_getElem_cons hlt, List.any_cons]
    have ih := ev_Check1 h m (i + 1) (by omega)
    have e0 : ∀ f : Int, someB f ((l2.length : Int) - 1) = (!decide (f < 0) && !decide (f ≥ (l2.length : Int))) := fun f => by
      unfold someB
      by_cases a1 : f < 0
      · rw [decide_eq_true a1, decide_eq_false (show ¬ 0 ≤ f by omega)]; rfl
      · rw [decide_eq_false a1, decide_eq_true (show 0 ≤ f by omega)]
        by_cases a2 : f ≥ (l2.length : Int)
        · rw [decide_eq_true a2, decide_eq_false (show ¬ f ≤ (l2.length : Int) - 1 by omega)]; rfl
        · rw [decide_eq_false a2, decide_eq_true (show f ≤ (l2.length : Int) - 1 by omega)]; rfl
    have e : oddB l2.length l1.length l3[i] = (!someB l3[i].f0 ((l2.length : Int) - 1) || (!someB l3[i].f1 ((l2.length : Int) - 1) || !rightB l3[i].f2.f0 l3[i].f2.f1 l3[i].f2.f2 l3[i].f2.f3 l3[i].f2.f4 l1.length)) := rfl
    rw [e, e0, e0]
    by_cases a1 : l3[i].f0 < 0
    · simp only [if_pos a1]; exact Ev.const (by simp [a1])
    by_cases a2 : l3[i].f0 ≥ (l2.length : Int)
    · simp only [if_neg a1, if_pos a2]; exact Ev.const (by simp [a2])
    by_cases a3 : l3[i].f1 < 0
    · simp only [if_neg a1, if_neg a2, if_pos a3]; exact Ev.const (by simp [a3])
    by_cases a4 : l3[i].f1 ≥ (l2.length : Int)
    · simp only [if_neg a1, if_neg a2, if_neg a3, if_pos a4]; exact Ev.const (by simp [a4])
    simp only [if_neg a1, if_neg a2, if_neg a3, if_neg a4]
    rw [decide_eq_false a1, decide_eq_false a2, decide_eq_false a3, decide_eq_false a4]
    refine Ev.bind (ev_Right _ _ _ _ _ _) ?_
    cases rightB l3[i].f2.f0 l3[i].f2.f1 l3[i].f2.f2 l3[i].f2.f3 l3[i].f2.f4 l1.length with
    | false => exact Ev.const rfl
    | true =>
      simp only [if_true]
      rw [w64 (by omega) (by omega)]
      simpa using ih
theorem ev_Check0 {a : ByteArray} {l1 : List ByteArray} {l2 : List S53} {l3 : List S57} (h : Small a l1 l2 l3) : ∀ (m i : Nat), i + m = l2.length → Ev (fun k => warrantorref11_Check.l0 k (l2.length : Int) (i : Int) a l1 l2 l3) (!((l2.drop i).any (fun x => !spotB x)) && !(l3.any (oddB l2.length l1.length)))
  | 0, i, hi => by
    refine Ev.succ (fun k => by rw [warrantorref11_Check.l0]) ?_
    simp only [if_neg (show ¬ (i : Int) < (l2.length : Int) by omega)]
    rw [List.drop_of_length_le (by omega)]
    simpa using ev_Check1 h l3.length 0 (by omega)
  | m + 1, i, hi => by
    have hlt : i < l2.length := by omega
    have hn2 := h.n2
    refine Ev.succ (fun k => by rw [warrantorref11_Check.l0]) ?_
    simp only [if_pos (show (i : Int) < (l2.length : Int) by omega), if_pos (Int.natCast_nonneg i)]
    rw [rd53_at l2 i hlt, List.drop_eq_getElem_cons hlt, List.any_cons]
    have ih := ev_Check0 h m (i + 1) (by omega)
    have hsz := h.s2 _ (List.getElem_mem hlt)
    refine Ev.bind (ev_Name _ (Nat.le_trans hsz.1 (by omega))) ?_
    unfold spotB
    cases nmB plainB l2[i].f0 32 with
    | false => exact Ev.const (by simp)
    | true =>
      simp only [if_true]
      refine Ev.bind (ev_File _ (Nat.le_trans hsz.2 (by omega))) ?_
      cases nmB pathB l2[i].f1 64 with
      | false => exact Ev.const (by simp)
      | true =>
        simp only [if_true]
        by_cases a1 : l2[i].f2 < 1
        · simp only [if_pos a1]
          exact Ev.const (by simp [oneB, show ¬ 1 ≤ l2[i].f2 by omega])
        · by_cases a2 : l2[i].f2 > 1048576
          · simp only [if_neg a1, if_pos a2]
            exact Ev.const (by simp [oneB, show ¬ l2[i].f2 ≤ 1048576 by omega])
          · simp only [if_neg a1, if_neg a2]
            rw [w64 (by omega) (by omega)]
            have : oneB l2[i].f2 1048576 = true := by simp [oneB]; omega
            rw [this]
            simpa [spotB] using ih
theorem ev_rCheck {a : ByteArray} {l1 : List ByteArray} {l2 : List S53} {l3 : List S57} (h : Small a l1 l2 l3) : Ev (fun k => warrantorref11_Check.f k a l1 l2 l3) (chkB a l1 l2 l3) := by
  unfold warrantorref11_Check.f chkB
  have hbad : Ev (fun k => warrantorref11_Check.j0 k (l2.length : Int) true a l1 l2 l3) false := Ev.succ (b := fun _ => some false) (fun k => by rw [warrantorref11_Check.j0, if_pos rfl]) (Ev.const rfl)
  refine Ev.bind (ev_Name a (Nat.le_trans h.n0 (by omega))) ?_
  cases nmB plainB a 32 with
  | false => exact hbad
  | true =>
    simp only [if_true, Bool.true_and]
    refine Ev.bind (ev_Vars l1 (Nat.le_trans h.n1 (by omega)) (fun s hs => Nat.le_trans (h.s1 s hs) (by omega))) ?_
    cases varsB l1 with
    | false => exact hbad
    | true =>
      simp only [if_true, Bool.true_and]
      unfold oneB
      by_cases a1 : (l2.length : Int) < 1
      · simp only [if_pos a1]
        rw [decide_eq_false (show ¬ (1 : Int) ≤ l2.length by omega)]
        exact hbad
      · simp only [if_neg a1]
        rw [decide_eq_true (show (1 : Int) ≤ l2.length by omega)]
        by_cases a2 : (l2.length : Int) > 128
        · simp only [if_pos a2]
          rw [decide_eq_false (show ¬ (l2.length : Int) ≤ 128 by omega)]
          exact hbad
        · simp only [if_neg a2]
          rw [decide_eq_true (show (l2.length : Int) ≤ 128 by omega)]
          by_cases a3 : (l3.length : Int) > 256
          · rw [decide_eq_true a3]; exact hbad
          · rw [decide_eq_false a3]
            refine Ev.succ (fun k => by rw [warrantorref11_Check.j0]) ?_
            simpa using ev_Check0 h l2.length 0 (by omega)
theorem check_f {a : ByteArray} {l1 : List ByteArray} {l2 : List S53} {l3 : List S57} (h : Small a l1 l2 l3) : prog_Check.f a l1 l2 l3 = some (if chkB a l1 l2 l3 = true then 0 else 110) := by
  unfold prog_Check.f
  rw [if_pos ⟨Nat.le_trans h.n1 (by omega), fun s hs => Nat.le_trans (h.s1 s hs) (by omega)⟩]
theorem ev_Vals0 (l : List Int) (hl : l.length ≤ 1000000) (n : Int) : ∀ (m i : Nat), i + m = l.length → Ev (fun k => warrantorref13_Vals.l0 k l n (i : Int)) (decide ((l.length : Int) = n) && !((l.drop i).any (fun x => !isB x)))
  | 0, i, hi => by
    refine Ev.succ (fun k => by rw [warrantorref13_Vals.l0]) ?_
    simp only [if_neg (show ¬ (i : Int) < (l.length : Int) by omega)]
    rw [List.drop_of_length_le (by omega)]
    refine Ev.const ?_
    by_cases h : (l.length : Int) = n
    · simp [h]
    · simp [h]
  | m + 1, i, hi => by
    have hlt : i < l.length := by omega
    refine Ev.succ (fun k => by rw [warrantorref13_Vals.l0]) ?_
    simp only [if_pos (show (i : Int) < (l.length : Int) by omega), if_pos (Int.natCast_nonneg i), ris_f, Option.bind_some]
    have e : rd l (i : Int) = l[i] := by simp [rd, List.getD_eq_getElem?_getD, List.getElem?_eq_getElem hlt]
    rw [e, List.drop_eq_getElem_cons hlt, List.any_cons]
    have ih := ev_Vals0 l hl n m (i + 1) (by omega)
    cases isB l[i] with
    | false => exact Ev.const (by simp)
    | true =>
      simp only [if_true]
      rw [w64 (by omega) (by omega)]
      simpa using ih
theorem ev_rVals (l : List Int) (hl : l.length ≤ 1000000) (n : Int) : Ev (fun k => warrantorref13_Vals.f k l n) (valsB l n) := ev_Vals0 l hl n l.length 0 (by omega)
end Go.Proofs.Ytpcpbeklaibdfaa.RunEv
