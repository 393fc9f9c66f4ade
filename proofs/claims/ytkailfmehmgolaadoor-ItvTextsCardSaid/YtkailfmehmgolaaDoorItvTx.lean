/- chapter 07: texts of intervals, as lists of bytes -/
import Derived.Test.YtkailfmehmgolaaDoorValNum
import Derived.Test.YtkailfmehmgolaaDoorItvEv
import Derived.Test.YtkailfmehmgolaaDoorRx27
namespace Go.Proofs.YtkailfmehmgolaaDoor.ItvTx
open Go.RowKit Go.Lib Go.Proofs.YtkailfmehmgolaaDoor.R Go.Proofs.YtkailfmehmgolaaDoorW.PrintWords Go.Proofs.YtkailfmehmgolaaDoorW.PrintLast
open ValEv (Ev showB parseB parseR clp parse_f show_f)
/-! ### lists -/
theorem idx_first : ∀ (A B : List UInt8), 44 ∉ A → index (A ++ 44 :: 32 :: B) [44, 32] = A.length
  | [], B, _ => by
    show index (44 :: 32 :: B) [44, 32] = 0
    rw [index, if_pos (by simp [List.isPrefixOf])]
  | b :: A, B, h => by
    have hb : b ≠ 44 := fun e => h (by rw [e]; exact List.mem_cons_self ..)
    have ih := idx_first A B (fun hm => h (List.mem_cons_of_mem _ hm))
    show index (b :: (A ++ 44 :: 32 :: B)) [44, 32] = _
    rw [index, if_neg (by simp [List.isPrefixOf, hb.symm]), ih, if_neg (by rw [beq_iff_eq]; omega)]
    simp
theorem idx_split : ∀ (l : List UInt8), 0 ≤ index l [44, 32] → ∃ A B, l = A ++ 44 :: 32 :: B ∧ index l [44, 32] = A.length
  | [], h => by simp [index] at h
  | b :: l, h => by
    rw [index] at h ⊢
    by_cases hp : [44, 32].isPrefixOf (b :: l) = true
    · rw [if_pos hp]
      obtain ⟨t, ht⟩ := List.isPrefixOf_iff_prefix.1 hp
      exact ⟨[], t, ht.symm, rfl⟩
    · rw [if_neg hp] at h ⊢
      by_cases hi : (index l [44, 32] == -1) = true
      · rw [if_pos hi] at h; omega
      · rw [if_neg hi] at h ⊢
        have hg := index_ge l [44, 32]
        have hne : index l [44, 32] ≠ -1 := by simpa using hi
        obtain ⟨A, B, e1, e2⟩ := idx_split l (by omega)
        exact ⟨b :: A, B, by rw [e1]; rfl, by rw [e2]; simp⟩
theorem cut_first (A B : List UInt8) (h : 44 ∉ A) : cut (A ++ 44 :: 32 :: B) [44, 32] = (A, B, true) := by
  unfold cut
  rw [idx_first A B h, if_pos (by omega)]
  simp
theorem cut_split (l : List UInt8) (h : (cut l [44, 32]).2.2 = true) : l = (cut l [44, 32]).1 ++ 44 :: 32 :: (cut l [44, 32]).2.1 := by
  unfold cut at h ⊢
  by_cases hi : 0 ≤ index l [44, 32]
  · obtain ⟨A, B, e1, e2⟩ := idx_split l hi
    rw [if_pos hi]
    have e3 : (index l [44, 32]).toNat = A.length := by rw [e2]; rfl
    rw [e3]
    conv => lhs; rw [e1]
    simp [e1]
  · rw [if_neg hi] at h; cases h
theorem pre_cases (l : List UInt8) : (hasPrefix l [91] = true ∧ l = 91 :: trimPrefix l [91]) ∨ (hasPrefix l [91] = false ∧ trimPrefix l [91] = l) := by
  unfold trimPrefix hasPrefix
  by_cases h : [91].isPrefixOf l = true
  · left
    obtain ⟨t, ht⟩ := List.isPrefixOf_iff_prefix.1 h
    refine ⟨h, ?_⟩
    rw [if_pos h, ← ht]; rfl
  · right
    exact ⟨Bool.eq_false_iff.2 h, by rw [if_neg h]⟩
theorem suf_cases (l : List UInt8) : (hasSuffix l [93] = true ∧ l = trimSuffix l [93] ++ [93]) ∨ (hasSuffix l [93] = false ∧ trimSuffix l [93] = l) := by
  unfold trimSuffix hasSuffix
  by_cases h : [93].isSuffixOf l = true
  · left
    obtain ⟨t, ht⟩ := List.isSuffixOf_iff_suffix.1 h
    refine ⟨h, ?_⟩
    rw [if_pos h, ← ht]
    simp
  · right
    exact ⟨Bool.eq_false_iff.2 h, by rw [if_neg h]⟩
theorem suf_app (l : List UInt8) : hasSuffix (l ++ [93]) [93] = true ∧ trimSuffix (l ++ [93]) [93] = l := by
  have h : hasSuffix (l ++ [93]) [93] = true := List.isSuffixOf_iff_suffix.2 ⟨l, rfl⟩
  refine ⟨h, ?_⟩
  unfold trimSuffix
  rw [if_pos h]
  simp
/-! ### values' texts -/
def rng (c : Int) : Prop := -1099511627776 ≤ c ∧ c ≤ 1099511627776
def L (c : Int) : List UInt8 := (showB c).data.toList
theorem ba_ext {a b : ByteArray} (h : a.data.toList = b.data.toList) : a = b := by
  apply ByteArray.ext
  exact Array.toList_inj.1 h
theorem ba_list (s : ByteArray) : (⟨s.data.toList.toArray⟩ : ByteArray) = s := ba_ext (by simp)
theorem L_bytes (c : Int) : ∀ b ∈ L c, b ≠ 44 := by
  unfold L showB
  split
  · decide
  · split
    · decide
    · intro b hb
      replace hb : b ∈ itoa c := by simpa using hb
      unfold itoa at hb
      split at hb
      · rcases List.mem_cons.1 hb with rfl | hb
        · decide
        · have := (ValEv.spell_dec _).2 _ hb
          rintro rfl
          exact absurd this (by decide)
      · have := (ValEv.spell_dec _).2 _ hb
        rintro rfl
        exact absurd this (by decide)
theorem L_no (c : Int) : (44 : UInt8) ∉ L c := fun h => L_bytes c _ h rfl
theorem L_len (c : Int) (h : rng c) : (L c).length ≤ 20 := by
  unfold L showB
  split
  · decide
  · split
    · decide
    · have := (ValEv.dg_itoa c (by have := h.1; omega) (by have := h.2; omega)).2
      simp
      omega
theorem clp_rng (a : Int) : rng (clp a) := ValEv.clp_range a
theorem clp_self {c : Int} (h : rng c) : clp c = c := by
  have h1 := h.1
  have h2 := h.2
  unfold clp; omega
/-- Each text is a value's, for both, or none's, for both. -/
theorem ac_or (s : ByteArray) : (∃ c, rng c ∧ s.data.toList = L c ∧ parseB s = (c, 0) ∧ parseR s = (c, true)) ∨ (parseB s = (0, 60) ∧ parseR s = (0, false)) := by
  rcases ValEv.parse_both s with ⟨h1, h2, h3⟩ | ⟨h1, h2⟩
  · left
    rw [ValEv.toList_data, ValEv.toList_data] at h3
    have e : showB (clp (parseR s).1) = s := ba_ext h3
    have h4 := ValEv.parse_show (clp (parseR s).1) (clp_rng _).1 (clp_rng _).2
    rw [e, h2] at h4
    have h5 : (parseR s).1 = clp (parseR s).1 := congrArg Prod.fst h4
    refine ⟨clp (parseR s).1, clp_rng _, h3.symm, by rw [← h5]; exact h2, ?_⟩
    rw [← h5]
    exact Prod.ext rfl h1
  · exact .inr ⟨h2, h1⟩
theorem ac_show {c : Int} (h : rng c) : parseB (showB c) = (c, 0) ∧ parseR (showB c) = (c, true) := by
  have h1 := ValEv.parse_show c h.1 h.2
  refine ⟨h1, ?_⟩
  rcases ac_or (showB c) with ⟨d, _, _, h2, h3⟩ | ⟨h2, _⟩
  · rw [h1] at h2
    obtain rfl : c = d := congrArg Prod.fst h2
    exact h3
  · rw [h1] at h2
    exact absurd (congrArg Prod.snd h2) (by simp)
/-- The text of an interval that has values. -/
def Bl (c d : Int) : List UInt8 := 91 :: (L c ++ 44 :: 32 :: (L d ++ [93]))
def Good (l : List UInt8) (c d : Int) : Prop := rng c ∧ rng d ∧ c ≤ d ∧ l = Bl c d
def bl (c d : Int) : ByteArray := ((((⟨#[91]⟩ : ByteArray) ++ showB c) ++ (⟨#[44, 32]⟩ : ByteArray)) ++ showB d) ++ (⟨#[93]⟩ : ByteArray)
theorem bl_list (c d : Int) : (bl c d).data.toList = Bl c d := by
  unfold bl Bl L
  simp [ByteArray.data_append]
theorem bl_size (c d : Int) : (showB c).size = (L c).length := by unfold L; simp
def NONE : ByteArray := ⟨#[110, 111, 110, 101]⟩
theorem none_list : NONE.toList = [110, 111, 110, 101] := by decide +kernel
/-- The text of any interval. -/
def showI (a b : Int) : ByteArray := if ItvEv.isN (ItvEv.pl a b) = true then NONE else bl (ItvEv.pl a b).1 (ItvEv.pl a b).2
theorem showI_f (a b : Int) : itv_Show.f a b = some (showI a b) := by
  have hr := (ItvEv.wf_pl a b).rng
  have h1 : rng (ItvEv.pl a b).1 := ⟨by omega, by omega⟩
  have h2 : rng (ItvEv.pl a b).2 := ⟨by omega, by omega⟩
  have l1 := L_len _ h1
  have l2 := L_len _ h2
  unfold itv_Show.f showI
  simp only [ItvEv.plain_f, ItvEv.none_f, Option.bind_some, show_f, clp_self h1, clp_self h2]
  have e : ((ItvEv.pl a b).1 == 1 && (ItvEv.pl a b).2 == 0) = ItvEv.isN (ItvEv.pl a b) := rfl
  rw [e]
  split
  · rfl
  · simp only [ByteArray.size_append, bl_size _ 0, show (⟨#[91]⟩ : ByteArray).size = 1 from rfl, show (⟨#[44, 32]⟩ : ByteArray).size = 2 from rfl]
    rw [if_pos (by omega), if_pos (by omega), if_pos (by omega), if_pos (by omega)]
    rfl
/-! ### the program's reading -/
theorem data_mk (l : List UInt8) : (⟨l.toArray⟩ : ByteArray).data.toList = l := by simp
theorem size_list (s : ByteArray) : s.size = s.data.toList.length := by simp
def okI (l : List UInt8) : Int × Int × Int :=
  let i1 := trimPrefix l [91]
  let i2 := trimSuffix i1 [93]
  let p := parseB ⟨(cut i2 [44, 32]).1.toArray⟩
  let q := parseB ⟨(cut i2 [44, 32]).2.1.toArray⟩
  if hasPrefix l [91] = true then if hasSuffix i1 [93] = true then if (cut i2 [44, 32]).2.2 = true then if p.2 = 0 then if q.2 = 0 then if p.1 > q.1 then (0, 0, 70) else (p.1, q.1, 0) else (0, 0, 70) else (0, 0, 70) else (0, 0, 70) else (0, 0, 70) else (0, 0, 70)
def parseI (s : ByteArray) : Int × Int × Int := if s.toList = [110, 111, 110, 101] then (1, 0, 0) else okI s.data.toList
theorem trimP_len (l : List UInt8) : (trimPrefix l [91]).length ≤ l.length := by unfold trimPrefix; split <;> simp
theorem trimS_len (l : List UInt8) : (trimSuffix l [93]).length ≤ l.length := by unfold trimSuffix; split <;> simp
theorem parseI_f (s : ByteArray) (hs : s.size ≤ 1000000) : itv_Parse.f s = some (parseI s) := by
  unfold itv_Parse.f parseI
  split
  · rfl
  · have s1 := trimP_len s.data.toList
    have s2 := trimS_len (trimPrefix s.data.toList [91])
    rw [size_list] at hs
    unfold strings_CutPrefix.f strings_CutSuffix.f strings_Cut.f
    simp only [Option.bind_some, data_mk, show (⟨#[91]⟩ : ByteArray).data.toList = [91] from rfl, show (⟨#[93]⟩ : ByteArray).data.toList = [93] from rfl, show (⟨#[44, 32]⟩ : ByteArray).data.toList = [44, 32] from rfl]
    rw [if_pos (by rw [size_list, data_mk]; omega), Option.bind_some]
    simp only [data_mk]
    rw [if_pos (by rw [size_list, data_mk]; omega), Option.bind_some]
    simp only [parse_f, Option.bind_some]
    unfold okI
    dsimp only
    split
    · split
      · split
        · split
          · split
            · split <;> rfl
            · rfl
          · rfl
        · rfl
      · rfl
    · rfl
theorem okI_good {l : List UInt8} {c d : Int} (h : Good l c d) : okI l = (c, d, 0) := by
  obtain ⟨hc, hd, hle, rfl⟩ := h
  have e1 : hasPrefix (Bl c d) [91] = true := List.isPrefixOf_iff_prefix.2 ⟨_, rfl⟩
  have e2 : trimPrefix (Bl c d) [91] = (L c ++ 44 :: 32 :: L d) ++ [93] := by
    unfold trimPrefix
    rw [if_pos e1]
    unfold Bl
    simp
  obtain ⟨e3, e4⟩ := suf_app (L c ++ 44 :: 32 :: L d)
  have e5 : (⟨(L c).toArray⟩ : ByteArray) = showB c := ba_list _
  have e6 : (⟨(L d).toArray⟩ : ByteArray) = showB d := ba_list _
  unfold okI
  dsimp only
  rw [e2, e4, cut_first _ _ (L_no c), if_pos e1, if_pos e3]
  dsimp only
  rw [e5, e6, (ac_show hc).1, (ac_show hd).1, if_pos rfl, if_pos rfl, if_pos rfl, if_neg (by omega)]
theorem okI_bad {l : List UInt8} (h : ∀ c d, ¬ Good l c d) : okI l = (0, 0, 70) := by
  unfold okI
  dsimp only
  split
  · next h1 =>
    split
    · next h2 =>
      split
      · next h3 =>
        split
        · next h4 =>
          split
          · next h5 =>
            split
            · rfl
            · next h6 =>
              exfalso
              rcases pre_cases l with ⟨_, e1⟩ | ⟨e1, _⟩
              · rcases suf_cases (trimPrefix l [91]) with ⟨_, e2⟩ | ⟨e2, _⟩
                · have e3 := cut_split _ h3
                  rcases ac_or ⟨(cut (trimSuffix (trimPrefix l [91]) [93]) [44, 32]).1.toArray⟩ with ⟨c, hc, l1, p1, _⟩ | ⟨p1, _⟩
                  · rcases ac_or ⟨(cut (trimSuffix (trimPrefix l [91]) [93]) [44, 32]).2.1.toArray⟩ with ⟨d, hd, l2, p2, _⟩ | ⟨p2, _⟩
                    · rw [p1, p2] at h6
                      rw [data_mk] at l1 l2
                      refine h c d ⟨hc, hd, by dsimp only at h6; omega, ?_⟩
                      rw [l1, l2] at e3
                      rw [e1, e2, e3]
                      unfold Bl
                      simp
                    · rw [p2] at h5; exact absurd h5 (by decide)
                  · rw [p1] at h4; exact absurd h4 (by decide)
                · rw [e2] at h2; cases h2
              · rw [e1] at h1; cases h1
          · rfl
        · rfl
      · rfl
    · rfl
  · rfl
end Go.Proofs.YtkailfmehmgolaaDoor.ItvTx
