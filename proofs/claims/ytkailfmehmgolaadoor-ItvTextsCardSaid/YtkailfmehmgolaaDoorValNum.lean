/- chapter 06: the value of a text: the program's answer and the document's, side by side -/
import Derived.Test.YtkailfmehmgolaaDoorValTx
namespace Go.Proofs.YtkailfmehmgolaaDoor.ValEv
open Go.RowKit Go.Lib Go.Proofs.YtkailfmehmgolaaDoor.R Go.Proofs.YtkailfmehmgolaaDoorW.PrintWords Go.Proofs.YtkailfmehmgolaaDoorW.PrintLast
theorem toList_loop (s : ByteArray) : ∀ (m i : Nat) (r : List UInt8), i + m = s.size → ByteArray.toList.loop s i r = r.reverse ++ s.data.toList.drop i := by
  intro m
  induction m with
  | zero =>
    intro i r h
    rw [ByteArray.toList.loop, if_neg (by omega), List.drop_eq_nil_of_le (by rw [Array.length_toList]; show s.size ≤ i; omega), List.append_nil]
  | succ m ih =>
    intro i r h
    have hi : i < s.data.toList.length := by rw [Array.length_toList]; show i < s.size; omega
    rw [ByteArray.toList.loop, if_pos (by omega), ih (i + 1) _ (by omega), List.drop_eq_getElem_cons hi]
    have hi2 : i < s.data.size := by simpa using hi
    have e : s.get! i = s.data.toList[i] := by
      show s.data[i]! = _
      rw [getElem!_pos s.data i hi2, Array.getElem_toList]
    rw [e]
    simp
theorem toList_data (s : ByteArray) : s.toList = s.data.toList := by
  have h := toList_loop s s.size 0 [] (by omega)
  unfold ByteArray.toList
  rw [h]
  rfl
theorem toList_mk (l : List UInt8) : (⟨l.toArray⟩ : ByteArray).toList = l := by rw [toList_data]
theorem nd_le : ∀ (m u : Nat), u < 10 ^ (m + 1) → nDigits u ≤ m + 1 := by
  intro m
  induction m with
  | zero => intro u h; rw [nDigits_small (by omega)]; omega
  | succ m ih =>
    intro u h
    by_cases h9 : u < 10
    · rw [nDigits_small h9]; omega
    · rw [nDigits_big h9]
      have := ih (u / 10) (by rw [Nat.pow_succ] at h; omega)
      omega
/-- The text that is shown of a clipped number. -/
def showB (c : Int) : ByteArray := if c = 1099511627776 then ⟨#[105, 110, 102]⟩ else if c = -1099511627776 then ⟨#[45, 105, 110, 102]⟩ else ⟨(itoa c).toArray⟩
theorem show_f (a : Int) : val_Show.f a = some (showB (clp a)) := by
  have h := clp_range a
  unfold val_Show.f showB
  rw [clip_f, Option.bind_some]
  split
  · rfl
  · split
    · rfl
    · unfold strconv_Itoa_52.f
      rw [if_pos (by omega)]
      rfl
/-- What the program reads of a text. -/
def parseB (s : ByteArray) : Int × Int :=
  if s.toList = [105, 110, 102] then (1099511627776, 0) else if s.toList = [45, 105, 110, 102] then (-1099511627776, 0) else if (s.size : Int) > 17 then (0, 60) else
    if (dgF s s.size 0 0 1).2 = true then if isv (dgF s s.size 0 0 1).1 = true then if (showB (clp (dgF s s.size 0 0 1).1)).toList = s.toList then ((dgF s s.size 0 0 1).1, 0) else (0, 60) else (0, 60) else (0, 60)
theorem parse_f (s : ByteArray) : val_Parse.f s = some (parseB s) := by
  unfold val_Parse.f parseB
  split
  · rfl
  · split
    · rfl
    · split
      · rfl
      · unfold val_digits.f
        rw [if_pos (by omega), Option.bind_some]
        split
        · rw [is_f, Option.bind_some]
          split
          · rw [show_f, Option.bind_some]
            split <;> rfl
          · rfl
        · rfl
theorem dg_itoa (c : Int) (h : -10000000000000000 < c) (h' : c < 10000000000000000) : dgF ⟨(itoa c).toArray⟩ (itoa c).length 0 0 1 = (c, true) ∧ (itoa c).length ≤ 17 := by
  by_cases hc : c < 0
  · obtain ⟨u, hu⟩ : ∃ u : Nat, -c = (u : Int) := ⟨(-c).toNat, by omega⟩
    have e : itoa c = 45 :: decDigits u := by unfold itoa; rw [if_pos hc, show c.natAbs = u by omega]
    have hl : (decDigits u).length ≤ 16 := by rw [decDigits_length]; exact nd_le 15 u (by omega)
    obtain ⟨s1, s2⟩ := spell_dec u
    rw [e, List.length_cons]
    refine ⟨?_, by omega⟩
    have hb := bt_list (45 :: decDigits u) 0 (by simp)
    rw [dgF, if_pos ⟨by rw [hb]; rfl, rfl⟩, dg_spell (45 :: decDigits u) (by simp; omega) (-1) (decDigits u).length 1 0 (by simp; omega) (by omega) (by omega) (by omega) (by simpa using s2)]
    rw [show (45 :: decDigits u).drop 1 = decDigits u from rfl, s1, w64 (by omega) (by omega)]
    congr 1
    omega
  · obtain ⟨u, rfl⟩ : ∃ u : Nat, c = (u : Int) := ⟨c.toNat, by omega⟩
    have e : itoa (u : Int) = decDigits u := itoa_nonneg u
    have hl : (decDigits u).length ≤ 16 := by rw [decDigits_length]; exact nd_le 15 u (by omega)
    obtain ⟨s1, s2⟩ := spell_dec u
    rw [e]
    refine ⟨?_, by omega⟩
    rw [dg_spell (decDigits u) (by omega) 1 (decDigits u).length 0 0 (by omega) (fun _ c hm => ?_) (by omega) (by omega) (by simpa using s2)]
    · rw [List.drop_zero, s1, w64 (by omega) (by omega)]
      congr 1
      omega
    · have := s2 c (List.mem_of_mem_head? hm)
      omega
theorem itoa_no (c : Int) (l : List UInt8) (h : (105 : UInt8) ∈ l) : itoa c ≠ l := by
  rintro rfl
  unfold itoa at h
  split at h
  · rcases List.mem_cons.1 h with h | h
    · exact absurd h (by decide)
    · have := (spell_dec _).2 _ h
      have e : (105 : UInt8).toNat = 105 := rfl
      omega
  · have := (spell_dec _).2 _ h
    have e : (105 : UInt8).toNat = 105 := rfl
    omega
theorem parse_show (c : Int) (h : -1099511627776 ≤ c) (h' : c ≤ 1099511627776) : parseB (showB c) = (c, 0) := by
  by_cases h1 : c = 1099511627776
  · subst h1; decide +kernel
  · by_cases h2 : c = -1099511627776
    · subst h2; decide +kernel
    · have e : showB c = ⟨(itoa c).toArray⟩ := by unfold showB; rw [if_neg h1, if_neg h2]
      obtain ⟨d1, d2⟩ := dg_itoa c (by omega) (by omega)
      have e2 : clp c = c := by unfold clp; omega
      rw [e]
      unfold parseB
      rw [toList_mk, if_neg (itoa_no c _ (by decide)), if_neg (itoa_no c _ (by decide)), ba_size, if_neg (by omega), d1]
      simp only [if_pos]
      rw [if_pos (show isv c = true from decide_eq_true ⟨h, h'⟩), e2, e, toList_mk, if_pos rfl]
theorem refShow_ev (c : Int) (h : -1099511627776 ≤ c) (h' : c ≤ 1099511627776) : Ev (fun k => warrantorref06_Show.f k c) (showB c) := by
  unfold warrantorref06_Show.f showB
  by_cases h1 : c = 1099511627776
  · simp only [if_pos h1]; exact Ev.one fun _ => rfl
  · by_cases h2 : c = -1099511627776
    · simp only [if_neg h1, if_pos h2]; exact Ev.one fun _ => rfl
    · simp only [if_neg h1, if_neg h2]
      exact Ev.bind (f := fun _ t => some t) (digits_ev c (by omega) (by omega)) (Ev.one fun _ => rfl)
/-! ### the document's reading -/
def numR (s : ByteArray) (p : Int × Bool) : Int × Bool := if p.2 = true then (p.1, (⟨(itoa p.1).toArray⟩ : ByteArray).toList == s.toList) else (0, false)
theorem num_l0 (s : ByteArray) (hs : s.size ≤ 17) (fr sg : Int) (hfs : fr = 1 ∧ sg = -1 ∨ fr = 0 ∧ sg = 1) : ∀ (m i : Nat) (n : Int), i + m = s.size → 0 ≤ n → n < 10 ^ i → (i = 0 → bt s 0 ≠ 45) → Ev (fun k => warrantorref06_Number.l0 k s fr n (i : Int)) (numR s (dgF s m i n sg)) := by
  intro m
  induction m with
  | zero =>
    intro i n him hn hn' _
    have hp17 : (10 : Int) ^ i ≤ 10 ^ 17 := by
      have : (10 : Nat) ^ i ≤ 10 ^ 17 := Nat.pow_le_pow_right (by omega) (by omega)
      exact_mod_cast this
    refine Ev.succ ?_
    rw [dgF]
    rcases hfs with ⟨rfl, rfl⟩ | ⟨rfl, rfl⟩
    · have e : wrap64 (-1 * n) = -n := by rw [w64 (by omega) (by omega)]; omega
      have e2 : wrap64 (-n) = -n := w64 (by omega) (by omega)
      have hh := Ev.bind (f := fun _ t157 => some (-n, (t157.toList == s.toList))) (digits_ev (-n) (by omega) (by omega)) (Ev.one fun _ => rfl)
      unfold numR
      rw [e]
      refine Ev.of hh fun k => ?_
      rw [warrantorref06_Number.l0, if_neg (by omega), if_pos rfl, e2]
    · have e : wrap64 (1 * n) = n := by rw [w64 (by omega) (by omega)]; omega
      have hh := Ev.bind (f := fun _ t157 => some (n, (t157.toList == s.toList))) (digits_ev n (by omega) (by omega)) (Ev.one fun _ => rfl)
      unfold numR
      rw [e]
      refine Ev.of hh fun k => ?_
      rw [warrantorref06_Number.l0, if_neg (by omega), if_neg (by omega)]
  | succ m ih =>
    intro i n him hn hn' h45
    have hp17 : (10 : Int) ^ i ≤ 10 ^ 16 := by
      have : (10 : Nat) ^ i ≤ 10 ^ 16 := Nat.pow_le_pow_right (by omega) (by omega)
      exact_mod_cast this
    have hp : (10 : Int) ^ (i + 1) = 10 * 10 ^ i := by rw [Int.pow_succ]; omega
    refine Ev.succ ?_
    rw [dgF, if_neg (by rintro ⟨h1, h2⟩; subst h2; exact h45 rfl h1)]
    by_cases hd : 48 ≤ bt s (i : Int) ∧ bt s (i : Int) ≤ 57
    · rw [if_pos hd]
      have e0 : (bt s (i : Int) - 48) % 256 = bt s (i : Int) - 48 := by omega
      have e1 : wrap64 (wrap64 (10 * n) + (bt s (i : Int) - 48)) = 10 * n + (bt s (i : Int) - 48) := by
        rw [w64 (x := 10 * n) (by omega) (by omega), w64 (by omega) (by omega)]
      have e2 : wrap64 ((i : Int) + 1) = ((i + 1 : Nat) : Int) := by rw [w64 (by omega) (by omega)]; rfl
      rw [e1]
      refine Ev.of (ih (i + 1) _ (by omega) (by omega) (by omega) (by omega)) fun k => ?_
      rw [warrantorref06_Number.l0, if_pos (by omega), if_pos (by omega), if_neg (by omega), if_neg (by omega), e0, e1, e2]
    · rw [if_neg hd]
      refine Ev.one fun k => ?_
      rw [warrantorref06_Number.l0, if_pos (by omega), if_pos (by omega)]
      by_cases h48 : bt s (i : Int) < 48
      · rw [if_pos h48]; rfl
      · rw [if_neg h48, if_pos (by omega)]; rfl
def numB (s : ByteArray) : Int × Bool := if (s.size : Int) > 17 then (0, false) else numR s (dgF s s.size 0 0 1)
theorem number_ev (s : ByteArray) : Ev (fun k => warrantorref06_Number.f k s) (numB s) := by
  unfold warrantorref06_Number.f numB
  by_cases h0 : (s.size : Int) = 0
  · simp only [if_pos h0, if_neg (show ¬ (s.size : Int) > 17 by omega)]
    have hz : s.size = 0 := by omega
    have e : numR s (dgF s s.size 0 0 1) = (0, false) := by
      rw [hz]
      unfold numR dgF
      rw [show wrap64 (1 * 0) = 0 by rw [w64 (by omega) (by omega)]; rfl]
      simp only [if_pos]
      rw [toList_mk, toList_data, List.eq_nil_of_length_eq_zero (show s.data.toList.length = 0 by simpa using hz), show itoa 0 = [48] by rw [show (0 : Int) = ((0 : Nat) : Int) from rfl, itoa_nonneg, dec_small (by omega)]; rfl]
      rfl
    rw [e]
    refine Ev.succ (Ev.one fun k => ?_)
    rw [warrantorref06_Number.j0, if_pos rfl]
  · simp only [if_neg h0]
    by_cases h17 : (s.size : Int) > 17
    · simp only [if_pos h17]
      refine Ev.succ (Ev.one fun k => ?_)
      rw [warrantorref06_Number.j0, if_pos (decide_eq_true h17)]
    · simp only [if_neg h17]
      obtain ⟨m, hm⟩ : ∃ m, s.size = m + 1 := ⟨s.size - 1, by omega⟩
      refine Ev.succ ?_
      by_cases h45 : bt s 0 = 45
      · have hr := num_l0 s (by omega) 1 (-1) (.inl ⟨rfl, rfl⟩) m 1 0 (by omega) (by omega) (by omega) (by omega)
        rw [hm, dgF, if_pos ⟨h45, rfl⟩]
        refine Ev.of (Ev.succ (g := fun k => warrantorref06_Number.j1 k s 1) (Ev.of hr fun k => ?_)) fun k => ?_
        · rw [warrantorref06_Number.j1]; rfl
        · rw [warrantorref06_Number.j0, if_neg (by rw [decide_eq_false (by omega)]; exact Bool.false_ne_true), if_pos (by omega), if_pos h45]
      · have hr := num_l0 s (by omega) 0 1 (.inr ⟨rfl, rfl⟩) s.size 0 0 (by omega) (by omega) (by omega) (fun _ => h45)
        refine Ev.of (Ev.succ (g := fun k => warrantorref06_Number.j1 k s 0) (Ev.of hr fun k => ?_)) fun k => ?_
        · rw [warrantorref06_Number.j1]; rfl
        · rw [warrantorref06_Number.j0, if_neg (by rw [decide_eq_false (by omega)]; exact Bool.false_ne_true), if_pos (by omega), if_neg h45]
def parseR (s : ByteArray) : Int × Bool :=
  if s.toList = [105, 110, 102] then (1099511627776, true) else if s.toList = [45, 105, 110, 102] then (-1099511627776, true) else
    if (numB s).2 = true then if (numB s).1 ≤ -1099511627776 then (0, false) else if (numB s).1 ≥ 1099511627776 then (0, false) else ((numB s).1, true) else (0, false)
theorem refParse_ev (s : ByteArray) : Ev (fun k => warrantorref06_Parse.f k s) (parseR s) := by
  unfold warrantorref06_Parse.f parseR
  by_cases h1 : s.toList = [105, 110, 102]
  · simp only [if_pos h1]; exact Ev.one fun _ => rfl
  · by_cases h2 : s.toList = [45, 105, 110, 102]
    · simp only [if_neg h1, if_pos h2]; exact Ev.one fun _ => rfl
    · simp only [if_neg h1, if_neg h2]
      refine Ev.bind (f := fun _ (bt159 : Int × Bool) => if bt159.2 = true then (if bt159.1 ≤ (-1099511627776) then (some (0, false)) else (if bt159.1 ≥ 1099511627776 then (some (0, false)) else (some (bt159.1, true)))) else (some (0, false))) (number_ev s) (Ev.one fun _ => ?_)
      split
      · split
        · rfl
        · split <;> rfl
      · rfl
/-- Both read alike; what is read is shown as the text. -/
theorem parse_both (s : ByteArray) : (parseR s).2 = true ∧ parseB s = ((parseR s).1, 0) ∧ (showB (clp (parseR s).1)).toList = s.toList ∨ parseR s = (0, false) ∧ parseB s = (0, 60) := by
  unfold parseB parseR
  by_cases h1 : s.toList = [105, 110, 102]
  · left
    simp only [if_pos h1]
    refine ⟨trivial, trivial, ?_⟩
    rw [h1]; decide +kernel
  · by_cases h2 : s.toList = [45, 105, 110, 102]
    · left
      simp only [if_neg h1, if_pos h2]
      refine ⟨trivial, trivial, ?_⟩
      rw [h2]; decide +kernel
    · simp only [if_neg h1, if_neg h2]
      unfold numB
      by_cases h3 : (s.size : Int) > 17
      · right
        simp only [if_pos h3, if_neg Bool.false_ne_true]
        exact ⟨trivial, trivial⟩
      · simp only [if_neg h3]
        generalize dgF s s.size 0 0 1 = p
        obtain ⟨v, ok⟩ := p
        cases ok with
        | false =>
          right
          simp only [numR, if_neg Bool.false_ne_true]
          exact ⟨trivial, trivial⟩
        | true =>
          simp only [numR, if_pos]
          by_cases hv : -1099511627776 < v ∧ v < 1099511627776
          · have e1 : clp v = v := by unfold clp; omega
            have e2 : showB v = ⟨(itoa v).toArray⟩ := by unfold showB; rw [if_neg (by omega), if_neg (by omega)]
            rw [if_pos (show isv v = true from decide_eq_true ⟨by omega, by omega⟩), e1, e2]
            by_cases h4 : (⟨(itoa v).toArray⟩ : ByteArray).toList = s.toList
            · left
              rw [if_pos h4, beq_iff_eq.2 h4]
              simp only [if_pos]
              rw [if_neg (by omega), if_neg (by omega)]
              simp only [e1, e2]
              exact ⟨trivial, trivial, h4⟩
            · right
              rw [if_neg h4, beq_eq_false_iff_ne.2 h4]
              simp
          · right
            have ea : (if ((⟨(itoa v).toArray⟩ : ByteArray).toList == s.toList) = true then if v ≤ -1099511627776 then ((0 : Int), false) else if v ≥ 1099511627776 then (0, false) else (v, true) else (0, false)) = (0, false) := by
              split
              · split
                · rfl
                · rw [if_pos (by omega)]
              · rfl
            refine ⟨ea, ?_⟩
            by_cases hi : isv v = true
            · have hi2 := of_decide_eq_true hi
              rw [if_pos hi, if_neg]
              have e1 : clp v = v := by unfold clp; omega
              rw [e1]
              intro hc
              by_cases hm : v = 1099511627776
              · subst hm; exact h1 (by rw [← hc]; decide +kernel)
              · obtain rfl : v = -1099511627776 := by omega
                exact h2 (by rw [← hc]; decide +kernel)
            · rw [if_neg hi]
end Go.Proofs.YtkailfmehmgolaaDoor.ValEv
