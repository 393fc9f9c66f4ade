/- chapter 19: the text of a sum, and the sum of a text (the plain law) -/
import Derived.Test.YtgbndakiiblhmaaNx8
import Derived.Test.YtgbndakiiblhmaaFnvEv
namespace Go.Proofs.Ytgbndakiiblhmaa.FnvEv
open Go.RowKit Go.Proofs.Ytgbndakiiblhmaa.N Go.Proofs.YtgbndakiiblhmaaW.PrintWords Go.Proofs.YtgbndakiiblhmaaW.PrintLast
abbrev HX : ByteArray := ⟨#[48, 49, 50, 51, 52, 53, 54, 55, 56, 57, 97, 98, 99, 100, 101, 102]⟩
/-- What a digit is; less than 0: it is none. -/
def dig (c : Int) : Int := if 48 ≤ c ∧ c ≤ 57 then c - 48 else if 97 ≤ c ∧ c ≤ 102 then c - 87 else -1
theorem index_dig {c : Int} (h0 : 0 ≤ c) (h1 : c ≤ 255) : strings_IndexByte.f HX c = some (dig c) := by
  obtain ⟨n, rfl⟩ := Int.eq_ofNat_of_zero_le h0
  have key : ∀ n : Fin 256, strings_IndexByte.f HX ((n.val : Nat) : Int) = some (dig ((n.val : Nat) : Int)) := by decide +kernel
  exact key ⟨n, by omega⟩
theorem dig_lt (c : Int) : dig c ≤ 15 := by unfold dig; split <;> (try split) <;> omega
theorem u64_lt (n : Int) (h0 : 0 ≤ n) (h1 : n < 2 ^ 64) : IntKind.u64.wrap n = n := by rw [u64]; omega
theorem or_eq (n d : Int) (h0 : 0 ≤ d) (h1 : d ≤ 15) : Go.bits .or .u64 (IntKind.u64.wrap (n * 16)) (IntKind.u64.wrap d) = IntKind.u64.wrap (16 * n) + d := by
  have e : IntKind.u64.wrap d = d := u64_lt d h0 (by omega)
  have e2 : n * 16 = 16 * n := Int.mul_comm _ _
  rw [e, e2]
  have hx : IntKind.u64.wrap (16 * n) = (16 * n) % 18446744073709551616 := u64 _
  exact Go.bits_join .u64 64 (Nat.le_refl _) u64_lt 4 _ _ (by omega) (by omega) (by omega) h0 (by omega) (by omega)
/-- The sum of a text, from one place on. -/
def pz (s : ByteArray) : Nat → Nat → Int → Option Int
  | 0, _, n => some n
  | m + 1, i, n => if dig (bt s i) < 0 then none else pz s m (i + 1) (IntKind.u64.wrap (16 * n) + dig (bt s i))
def resP : Option Int → Int × Int
  | none => (0, 190)
  | some n => (n, 0)
def resR : Option Int → Int × Bool
  | none => (0, false)
  | some n => (n, true)
theorem ev_Parse_loop (s : ByteArray) (hs : s.size = 16) : ∀ (m i : Nat) (n : Int), i + m = 16 → Ev (fun k => fnv_Parse.l0 k s n (s.size : Int) (i : Int)) (resP (pz s m i n))
  | 0, i, n, h => by
    refine Ev.succ (fun k => by rw [fnv_Parse.l0]) ?_
    simp only [if_neg (show ¬ (i : Int) < (s.size : Int) by omega)]
    exact Ev.const rfl
  | m + 1, i, n, h => by
    have hb := bt_range s (i : Int)
    refine Ev.succ (fun k => by rw [fnv_Parse.l0]) ?_
    simp only [if_pos (show (i : Int) < (s.size : Int) by omega), if_pos (show (0 : Int) ≤ (i : Int) by omega), index_dig hb.1 hb.2, Option.bind_some]
    unfold pz
    by_cases hd : dig (bt s (i : Int)) < 0
    · simp only [if_pos hd]; exact Ev.const rfl
    · simp only [if_neg hd, or_eq n _ (show 0 ≤ dig (bt s (i : Int)) by omega) (dig_lt _), succ_nat i (by omega)]
      exact ev_Parse_loop s hs m (i + 1) _ (by omega)
def parseO (s : ByteArray) : Option Int := if s.size = 16 then pz s 16 0 0 else none
theorem ev_Parse (s : ByteArray) : Ev (fun k => fnv_Parse.f k s) (resP (parseO s)) := by
  unfold fnv_Parse.f parseO
  by_cases hs : s.size = 16
  · simp only [if_pos hs, if_pos (show (s.size : Int) = 16 by omega)]
    exact ev_Parse_loop s hs 16 0 0 (by omega)
  · simp only [if_neg hs, if_neg (show ¬ (s.size : Int) = 16 by omega)]
    exact Ev.const rfl
theorem ev_refParse_loop (s : ByteArray) (hs : s.size = 16) : ∀ (m i : Nat) (n : Int), i + m = 16 → Ev (fun k => warrantorref19_Parse.l0 k s n (i : Int)) (resR (pz s m i n))
  | 0, i, n, h => by
    refine Ev.succ (fun k => by rw [warrantorref19_Parse.l0]) ?_
    simp only [if_neg (show ¬ (i : Int) < 16 by omega)]
    exact Ev.const rfl
  | m + 1, i, n, h => by
    have hb := bt_range s (i : Int)
    have ih := ev_refParse_loop s hs m (i + 1) (IntKind.u64.wrap (16 * n) + dig (bt s i)) (by omega)
    have hw : IntKind.u64.wrap (16 * n) = (16 * n) % 18446744073709551616 := u64 _
    refine Ev.succ (fun k => by rw [warrantorref19_Parse.l0]) ?_
    simp only [if_pos (show (i : Int) < 16 by omega), if_pos (show (0 : Int) ≤ (i : Int) by omega), if_pos (show (i : Int) < (s.size : Int) by omega)]
    unfold pz
    generalize bt s (i : Int) = c at *
    by_cases h1 : 48 ≤ c ∧ c ≤ 57
    · have hd : dig c = c - 48 := by unfold dig; rw [if_pos h1]
      have hv : IntKind.u64.wrap (IntKind.u64.wrap (16 * n) + (c - 48) % 256) = IntKind.u64.wrap (16 * n) + dig c := by
        rw [hd, u64 (IntKind.u64.wrap (16 * n) + (c - 48) % 256)]; omega
      simp only [if_pos (show c ≥ 48 by omega), h1.2, decide_true]
      refine Ev.succ (fun k => by rw [warrantorref19_Parse.j1]) ?_
      simp only [if_pos, hv, succ_nat i (by omega), if_neg (show ¬ dig c < 0 by omega)]
      exact ih
    · have hno : ∀ b : Bool, b = false → Ev (fun k => warrantorref19_Parse.j1 k s n (i : Int) c b) (resR (if dig c < 0 then none else pz s m (i + 1) (IntKind.u64.wrap (16 * n) + dig c))) := by
        intro b hb0
        subst hb0
        refine Ev.succ (fun k => by rw [warrantorref19_Parse.j1]) ?_
        simp only [if_neg Bool.false_ne_true]
        by_cases h2 : c ≥ 97
        · simp only [if_pos h2]
          by_cases h3 : c ≤ 102
          · have hd : dig c = c - 87 := by unfold dig; rw [if_neg h1, if_pos ⟨h2, h3⟩]
            have hv : IntKind.u64.wrap (IntKind.u64.wrap (IntKind.u64.wrap (16 * n) + (c - 97) % 256) + 10) = IntKind.u64.wrap (16 * n) + dig c := by
              rw [hd, u64 (IntKind.u64.wrap (IntKind.u64.wrap (16 * n) + (c - 97) % 256) + 10), u64 (IntKind.u64.wrap (16 * n) + (c - 97) % 256)]; omega
            simp only [if_pos h3, hv, succ_nat i (by omega), if_neg (show ¬ dig c < 0 by omega)]
            exact ih
          · have hd : dig c = -1 := by unfold dig; rw [if_neg h1, if_neg (by omega)]
            simp only [if_neg h3, hd, if_pos (show (-1 : Int) < 0 by decide)]
            exact Ev.const rfl
        · have hd : dig c = -1 := by unfold dig; rw [if_neg h1, if_neg (by omega)]
          simp only [if_neg h2, hd, if_pos (show (-1 : Int) < 0 by decide)]
          exact Ev.const rfl
      by_cases h4 : c ≥ 48
      · simp only [if_pos h4]
        exact hno _ (decide_eq_false (by omega))
      · simp only [if_neg h4]
        exact hno _ rfl
theorem ev_refParse (s : ByteArray) : Ev (fun k => warrantorref19_Parse.f k s) (resR (parseO s)) := by
  unfold warrantorref19_Parse.f parseO
  by_cases hs : s.size = 16
  · simp only [if_pos hs, if_pos (show (s.size : Int) = 16 by omega)]
    exact ev_refParse_loop s hs 16 0 0 (by omega)
  · simp only [if_neg hs, if_neg (show ¬ (s.size : Int) = 16 by omega)]
    exact Ev.const rfl
/-! ### the text of a sum -/
def nib (a : Int) (i : Nat) : Int := a / 2 ^ (4 * i) % 16
theorem nib_range (a : Int) (i : Nat) : 0 ≤ nib a i ∧ nib a i < 16 := by unfold nib; omega
def chr (d : Int) : Int := bt HX d
def sh (a : Int) (i : Nat) : List Int := (List.range 16).map fun p => if 15 - p < i then chr (nib a (15 - p)) else 0
theorem sh_len (a : Int) (i : Nat) : (sh a i).length = 16 := by simp [sh]
theorem sh_set (a : Int) (i : Nat) (hi : i < 16) : (sh a i).set (15 - i) (chr (nib a i)) = sh a (i + 1) := by
  apply List.ext_getElem (by simp [sh])
  intro p h1 h2
  have hp : p < 16 := by simpa [sh] using h2
  by_cases h : p = 15 - i
  · subst h
    rw [List.getElem_set_self]
    simp only [sh, List.getElem_map, List.getElem_range]
    rw [show 15 - (15 - i) = i by omega, if_pos (by omega)]
  · rw [List.getElem_set_ne (by omega)]
    simp only [sh, List.getElem_map, List.getElem_range]
    by_cases h3 : 15 - p < i
    · rw [if_pos h3, if_pos (by omega)]
    · rw [if_neg h3, if_neg (by omega)]
theorem pow16 (i : Nat) : (2 : Int) ^ (4 * (i + 1)) = 2 ^ (4 * i) * 16 := by rw [Nat.mul_succ, Int.pow_add]; rfl
theorem pow_pos' (i : Nat) : (0 : Int) < 2 ^ (4 * i) := Int.pow_pos (by decide)
theorem div_step (a : Int) (i : Nat) : a / 2 ^ (4 * (i + 1)) = a / 2 ^ (4 * i) / 16 := by
  have h := pow_pos' i
  rw [pow16, Int.ediv_ediv, if_neg (by omega), Int.sub_zero]
theorem div_U {a : Int} (ha : U a) (i : Nat) : U (a / 2 ^ (4 * i)) := by
  have h1 := Int.ediv_nonneg ha.1 (Int.le_of_lt (pow_pos' i))
  have h2 : a / 2 ^ (4 * i) ≤ a := Int.ediv_le_self _ ha.1
  exact ⟨h1, by have := ha.2; omega⟩
theorem ev_Show {a : Int} (ha : U a) : Ev (fun k => fnv_Show.f k a) (strOfNums (sh a 16)) := by
  unfold fnv_Show.f
  have h0 : List.replicate 16 (0 : Int) = sh a 0 := by
    apply List.ext_getElem (by simp [sh])
    intro p h1 h2
    simp only [List.getElem_replicate, sh, List.getElem_map, List.getElem_range]
    rw [if_neg (by omega)]
  simp only [if_pos (show 16 ≤ 281474976710656 by decide), Option.bind_some, List.length_replicate]
  rw [h0]
  refine Ev.up0 (l := fun k i => fnv_Show.l0 k a (sh a i) ((16 : Nat) : Int) (i : Int)) (N := 16) ?_ ?_
  · refine Ev.succ (fun k => by rw [fnv_Show.l0]) ?_
    simp only [if_neg (Int.lt_irrefl _)]
    exact Ev.const rfl
  · intro i hi h
    have e1 : wrap64 (4 * (i : Int)) = ((4 * i : Nat) : Int) := by rw [w64 (by omega) (by omega)]; omega
    have e2 : wrap64 (15 - (i : Int)) = ((15 - i : Nat) : Int) := by rw [w64 (by omega) (by omega)]; omega
    have e3 : shr .u64 a ((4 * i : Nat) : Int) = a / 2 ^ (4 * i) := by
      unfold shr
      rw [Int.toNat_natCast]
      have : min (4 * i) IntKind.u64.bits = 4 * i := by have : IntKind.u64.bits = 64 := rfl; omega
      rw [this]
    have hD := div_U ha i
    have e4 : Go.bits .and .u64 (a / 2 ^ (4 * i)) 15 = nib a i := by
      have := Go.bits_mask .u64 64 (Nat.le_refl _) u64_lt 4 (by decide) (a / 2 ^ (4 * i)) hD.1 (by have := hD.2; omega)
      exact this
    have hn := nib_range a i
    refine Ev.succ (fun k => by rw [fnv_Show.l0]) ?_
    simp only [if_pos (show (i : Int) < ((16 : Nat) : Int) by omega), e1, e2, e3, e4, sh_len, if_pos (show (0 : Int) ≤ ((4 * i : Nat) : Int) by omega), if_pos hn.1, if_pos hn.2, if_pos (show (0 : Int) ≤ ((15 - i : Nat) : Int) by omega), if_pos (show ((15 - i : Nat) : Int) < ((16 : Nat) : Int) by omega), Int.toNat_natCast, succ_nat i (by omega)]
    have := sh_set a i hi
    unfold chr at this
    rw [this]
    exact h
/-- The digits so far, the last first taken. -/
def ch8 (d : Int) : UInt8 := UInt8.ofNat (chr d).toNat
def rs (a : Int) : Nat → List UInt8
  | 0 => []
  | i + 1 => ch8 (nib a i) :: rs a i
theorem ext_dig {d : Int} (h0 : 0 ≤ d) (h1 : d < 16) : HX.extract d.toNat (d + 1).toNat = ⟨#[ch8 d]⟩ := by
  obtain ⟨n, rfl⟩ := Int.eq_ofNat_of_zero_le h0
  have key : ∀ n : Fin 16, HX.extract ((n.val : Nat) : Int).toNat (((n.val : Nat) : Int) + 1).toNat = ⟨#[ch8 ((n.val : Nat) : Int)]⟩ := by decide +kernel
  exact key ⟨n, by omega⟩
theorem app8 (x : UInt8) (l : List UInt8) : (⟨#[x]⟩ : ByteArray) ++ ⟨l.toArray⟩ = ⟨(x :: l).toArray⟩ := by
  apply ByteArray.ext
  rw [ByteArray.data_append]
  apply Array.toList_inj.1
  simp
theorem rs_len (a : Int) : ∀ i, (rs a i).length = i
  | 0 => rfl
  | i + 1 => by simp [rs, rs_len a i]
theorem ev_refShow {a : Int} (ha : U a) : Ev (fun k => warrantorref19_Show.f k a) ⟨(rs a 16).toArray⟩ := by
  unfold warrantorref19_Show.f
  have h0 : (fun k => warrantorref19_Show.l0 k a (⟨#[]⟩ : ByteArray) 0) = fun k => warrantorref19_Show.l0 k (a / 2 ^ (4 * 0)) ⟨(rs a 0).toArray⟩ ((0 : Nat) : Int) := by
    have : a / 2 ^ (4 * 0) = a := by simp
    rw [this]; rfl
  rw [h0]
  refine Ev.up0 (l := fun k i => warrantorref19_Show.l0 k (a / 2 ^ (4 * i)) ⟨(rs a i).toArray⟩ (i : Int)) (N := 16) ?_ ?_
  · refine Ev.succ (fun k => by rw [warrantorref19_Show.l0]) ?_
    simp only [if_neg (show ¬ ((16 : Nat) : Int) < 16 by decide)]
    exact Ev.const rfl
  · intro i hi h
    have hD := div_U ha i
    have hn := nib_range a i
    have e1 : Int.tmod (a / 2 ^ (4 * i)) 16 = nib a i := Int.tmod_eq_emod_of_nonneg hD.1
    have e2 : Int.tdiv (a / 2 ^ (4 * i)) 16 = a / 2 ^ (4 * (i + 1)) := by rw [Int.tdiv_eq_ediv_of_nonneg hD.1, div_step]
    have e3 : wrap64 (nib a i) = nib a i := w64 (by omega) (by omega)
    have e4 : wrap64 (nib a i + 1) = nib a i + 1 := w64 (by omega) (by omega)
    have e5 : IntKind.u64.wrap (a / 2 ^ (4 * (i + 1))) = a / 2 ^ (4 * (i + 1)) := u64_lt _ (div_U ha (i + 1)).1 (by have := (div_U ha (i + 1)).2; omega)
    have e6 := ext_dig hn.1 hn.2
    have e7 : (⟨#[ch8 (nib a i)]⟩ : ByteArray).size + (⟨(rs a i).toArray⟩ : ByteArray).size ≤ 9223372036854775807 := by
      have h1 : (⟨(rs a i).toArray⟩ : ByteArray).size = i := by
        show (rs a i).toArray.size = i
        rw [List.size_toArray, rs_len]
      have h2 : (⟨#[ch8 (nib a i)]⟩ : ByteArray).size = 1 := rfl
      omega
    refine Ev.succ (fun k => by rw [warrantorref19_Show.l0]) ?_
    simp only [if_pos (show (i : Int) < 16 by omega), e1, e2, e3, e4, e5, e6, if_pos hn.1, if_pos (show nib a i ≤ nib a i + 1 by omega), if_pos (show nib a i + 1 ≤ 16 by omega), if_pos e7, app8, succ_nat i (by omega)]
    exact h
theorem show_same (a : Int) : strOfNums (sh a 16) = ⟨(rs a 16).toArray⟩ := by
  unfold strOfNums
  have : (sh a 16).map (fun n => UInt8.ofNat n.toNat) = rs a 16 := by
    simp [sh, rs, ch8, List.range_succ]
  rw [this]
theorem bt_nums (xs : List Int) (i : Nat) (h : i < xs.length) (h0 : 0 ≤ xs[i]) (h1 : xs[i] ≤ 255) : bt (strOfNums xs) (i : Int) = xs[i] := by
  have hs : i < (strOfNums xs).size := by rw [strOfNums_size]; exact h
  have := bt_at (strOfNums xs) (i : Int) (by simpa using hs)
  rw [← this]
  have e : (strOfNums xs)[(i : Int).toNat] = UInt8.ofNat (xs[i]).toNat := by
    show ((xs.map fun n => UInt8.ofNat n.toNat).toArray)[i]'(by simpa using h) = _
    simp
  rw [e, UInt8.toNat_ofNat']
  omega
theorem chr_range {d : Int} : 0 ≤ chr d ∧ chr d ≤ 255 := bt_range HX d
theorem dig_chr {d : Int} (h0 : 0 ≤ d) (h1 : d < 16) : dig (chr d) = d := by
  obtain ⟨n, rfl⟩ := Int.eq_ofNat_of_zero_le h0
  have key : ∀ n : Fin 16, dig (chr ((n.val : Nat) : Int)) = ((n.val : Nat) : Int) := by decide +kernel
  exact key ⟨n, by omega⟩
theorem pz_show {a : Int} (ha : U a) : ∀ (m i : Nat), i + m = 16 → pz (strOfNums (sh a 16)) m i (a / 2 ^ (4 * m)) = some a
  | 0, i, _ => by simp [pz]
  | m + 1, i, h => by
    have hb : bt (strOfNums (sh a 16)) (i : Int) = chr (nib a m) := by
      have h1 : i < (sh a 16).length := by rw [sh_len]; omega
      have e : (sh a 16)[i] = chr (nib a m) := by
        simp only [sh, List.getElem_map, List.getElem_range]
        rw [if_pos (by omega), show 15 - i = m by omega]
      rw [bt_nums _ i h1 (by rw [e]; exact chr_range.1) (by rw [e]; exact chr_range.2), e]
    have hn := nib_range a m
    unfold pz
    rw [hb, dig_chr hn.1 hn.2, if_neg (by omega)]
    have hD := div_U ha m
    have hs := div_step a m
    have e : IntKind.u64.wrap (16 * (a / 2 ^ (4 * (m + 1)))) + nib a m = a / 2 ^ (4 * m) := by
      have hD1 := hD.1
      have hD2 := hD.2
      unfold nib
      rw [hs]
      generalize a / 2 ^ (4 * m) = q at *
      rw [u64_lt _ (by omega) (by omega)]
      omega
    rw [e]
    exact pz_show ha m (i + 1) (by omega)
theorem parse_show {a : Int} (ha : U a) : parseO (strOfNums (sh a 16)) = some a := by
  unfold parseO
  rw [if_pos (by rw [strOfNums_size, sh_len])]
  have h := pz_show ha 16 0 (by omega)
  have : a / 2 ^ (4 * 16) = 0 := by
    have := ha.2
    exact Int.ediv_eq_zero_of_lt ha.1 (by have : (2 : Int) ^ (4 * 16) = 18446744073709551616 := by decide
                                          omega)
  rwa [this] at h
end Go.Proofs.Ytgbndakiiblhmaa.FnvEv
