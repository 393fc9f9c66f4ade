/- chapter 06: texts of values: what the program's functions and the document's read and write -/
import Derived.Test.YtkailfmehmgolaaDoorRx26
import Derived.Test.YtkailfmehmgolaaDoorValEv
namespace Go.Proofs.YtkailfmehmgolaaDoor.ValEv
open Go.RowKit Go.Lib Go.Proofs.YtkailfmehmgolaaDoor.R Go.Proofs.YtkailfmehmgolaaDoorW.PrintWords Go.Proofs.YtkailfmehmgolaaDoorW.PrintLast
/-- From some number of rounds on the answer is r. -/
def Ev {α : Type} (g : Nat → Option α) (r : α) : Prop := ∃ k0, ∀ k, k0 ≤ k → g k = some r
theorem Ev.succ {α : Type} {g : Nat → Option α} {r : α} (h : Ev (fun k => g (k + 1)) r) : Ev g r := by
  obtain ⟨k0, h⟩ := h
  refine ⟨k0 + 1, fun k hk => ?_⟩
  obtain ⟨j, rfl⟩ : ∃ j, k = j + 1 := ⟨k - 1, by omega⟩
  exact h j (by omega)
theorem Ev.of {α : Type} {g g' : Nat → Option α} {r : α} (h : Ev g' r) (e : ∀ k, g k = g' k) : Ev g r := by
  obtain ⟨k0, h⟩ := h
  exact ⟨k0, fun k hk => by rw [e]; exact h k hk⟩
theorem Ev.one {α : Type} {g : Nat → Option α} {r : α} (e : ∀ k, g k = some r) : Ev g r := ⟨0, fun k _ => e k⟩
theorem Ev.bind {α β : Type} {g : Nat → Option α} {a : α} {f : Nat → α → Option β} {r : β} (h : Ev g a) (hf : Ev (fun k => f k a) r) : Ev (fun k => (g k).bind (f k)) r := by
  obtain ⟨k0, h⟩ := h
  obtain ⟨k1, hf⟩ := hf
  refine ⟨max k0 k1, fun k hk => ?_⟩
  show (g k).bind (f k) = some r
  rw [h k (by omega)]
  exact hf k (by omega)
theorem dig_piece (d : Nat) (h : d < 10) : (⟨#[48, 49, 50, 51, 52, 53, 54, 55, 56, 57]⟩ : ByteArray).extract d (d + 1) = ⟨#[UInt8.ofNat (48 + d)]⟩ :=
  (by decide +kernel : ∀ d : Fin 10, (⟨#[48, 49, 50, 51, 52, 53, 54, 55, 56, 57]⟩ : ByteArray).extract d.1 (d.1 + 1) = ⟨#[UInt8.ofNat (48 + d.1)]⟩) ⟨d, h⟩
theorem ba_app (a b : List UInt8) : (⟨a.toArray⟩ : ByteArray) ++ ⟨b.toArray⟩ = ⟨(a ++ b).toArray⟩ := by
  apply ByteArray.ext
  rw [ByteArray.data_append]
  simp
theorem ba_size (a : List UInt8) : (⟨a.toArray⟩ : ByteArray).size = a.length := by
  show a.toArray.size = a.length
  simp
theorem dec_big {u : Nat} (h : ¬ u < 10) : decDigits u = decDigits (u / 10) ++ [UInt8.ofNat (48 + u % 10)] := by rw [decDigits, dif_neg h]
theorem dec_small {u : Nat} (h : u < 10) : decDigits u = [UInt8.ofNat (48 + u)] := by rw [decDigits, dif_pos h]
theorem tmod10 (u : Nat) : Int.tmod (u : Int) 10 = ((u % 10 : Nat) : Int) := rfl
theorem tdiv10 (u : Nat) : Int.tdiv (u : Int) 10 = ((u / 10 : Nat) : Int) := rfl
def dec0 (u : Nat) : List UInt8 := if u = 0 then [] else decDigits u
theorem dec0_split (u : Nat) (h : u ≠ 0) : dec0 u = dec0 (u / 10) ++ [UInt8.ofNat (48 + u % 10)] := by
  unfold dec0
  rw [if_neg h]
  by_cases h9 : u < 10
  · rw [if_pos (by omega), dec_small h9, Nat.mod_eq_of_lt h9]; rfl
  · rw [if_neg (by omega), dec_big h9]
theorem digits_l0 (u : Nat) : u < 2 ^ 63 → ∀ acc : List UInt8, (u = 0 ∨ acc.length + nDigits u ≤ 100) → Ev (fun k => warrantorref06_Digits.l0 k (u : Int) ⟨acc.toArray⟩) (⟨(dec0 u ++ acc).toArray⟩ : ByteArray) := by
  induction u using Nat.strongRecOn with
  | _ u ih =>
    intro hu acc hacc
    by_cases h0 : u = 0
    · subst h0
      refine Ev.succ (Ev.one fun k => ?_)
      rw [warrantorref06_Digits.l0, if_neg (by omega)]
      rfl
    · refine Ev.succ ?_
      have hd : u % 10 < 10 := Nat.mod_lt _ (by omega)
      have hlen : acc.length + nDigits u ≤ 100 := by omega
      have hnd := nDigits_pos u
      refine Ev.of (ih (u / 10) (by omega) (by omega) (UInt8.ofNat (48 + u % 10) :: acc) ?_) (fun k => ?_) |> fun h => by rw [dec0_split u h0]; simpa using h
      · by_cases h9 : u < 10
        · left; omega
        · right; rw [nDigits_big h9] at hlen; simp; omega
      · have e1 : wrap64 (((u % 10 : Nat) : Int) + 1) = ((u % 10 + 1 : Nat) : Int) := by rw [w64 (by omega) (by omega)]; rfl
        have e2 : wrap64 ((u / 10 : Nat) : Int) = ((u / 10 : Nat) : Int) := w64 (by omega) (by omega)
        rw [warrantorref06_Digits.l0, if_pos (by omega), tmod10, tdiv10, e1, e2, if_pos (by omega), if_pos (by omega), if_pos (by omega), Int.toNat_natCast, Int.toNat_natCast, dig_piece _ hd, if_pos, show (#[UInt8.ofNat (48 + u % 10)] : Array UInt8) = [UInt8.ofNat (48 + u % 10)].toArray from rfl, ba_app]
        · rfl
        · rw [show (⟨#[UInt8.ofNat (48 + u % 10)]⟩ : ByteArray).size = 1 from rfl, ba_size]; omega
theorem nd_bound (u : Nat) (hu : u < 2 ^ 63) : nDigits u ≤ 19 := by
  have key : ∀ (m u : Nat), u < 10 ^ (m + 1) → nDigits u ≤ m + 1 := by
    intro m
    induction m with
    | zero => intro u h; rw [nDigits_small (by omega)]; omega
    | succ m ih =>
      intro u h
      by_cases h9 : u < 10
      · rw [nDigits_small h9]; omega
      · rw [nDigits_big h9]
        have := ih (u / 10) (by rw [Nat.pow_succ] at h; omega)
        omega
  exact key 18 u (by omega)
theorem digits_nat (u : Nat) (hu : u < 2 ^ 63) : Ev (fun k => warrantorref06_Digits.f k (u : Int)) (⟨(decDigits u).toArray⟩ : ByteArray) := by
  refine Ev.succ ?_
  have hd : u % 10 < 10 := Nat.mod_lt _ (by omega)
  have hb := nd_bound (u / 10) (by omega)
  have h := digits_l0 (u / 10) (by omega) [UInt8.ofNat (48 + u % 10)] (by right; simp; omega)
  have e : decDigits u = dec0 (u / 10) ++ [UInt8.ofNat (48 + u % 10)] := by
    by_cases h0 : u = 0
    · subst h0; rw [dec_small (by omega)]; rfl
    · rw [← dec0_split u h0]; unfold dec0; rw [if_neg h0]
  rw [e]
  refine Ev.of h fun k => ?_
  have e1 : wrap64 (((u % 10 : Nat) : Int) + 1) = ((u % 10 + 1 : Nat) : Int) := by rw [w64 (by omega) (by omega)]; rfl
  have e2 : wrap64 ((u / 10 : Nat) : Int) = ((u / 10 : Nat) : Int) := w64 (by omega) (by omega)
  rw [warrantorref06_Digits.f, if_neg (by omega), tmod10, tdiv10, e1, e2, if_pos (by omega), if_pos (by omega), if_pos (by omega), Int.toNat_natCast, Int.toNat_natCast, dig_piece _ hd]
theorem digits_ev (n : Int) (h : -9223372036854775808 < n) (h' : n ≤ 9223372036854775807) : Ev (fun k => warrantorref06_Digits.f k n) (⟨(itoa n).toArray⟩ : ByteArray) := by
  by_cases hn : n < 0
  · refine Ev.succ ?_
    obtain ⟨u, hu⟩ : ∃ u : Nat, -n = (u : Int) := ⟨(-n).toNat, by omega⟩
    have hb := nd_bound u (by omega)
    have e : (⟨(itoa n).toArray⟩ : ByteArray) = (⟨#[45]⟩ : ByteArray) ++ ⟨(decDigits u).toArray⟩ := by
      unfold itoa
      rw [if_pos hn, show n.natAbs = u by omega, show (#[45] : Array UInt8) = [45].toArray from rfl, ba_app]
      rfl
    rw [e]
    have hsz : 1 + (⟨(decDigits u).toArray⟩ : ByteArray).size ≤ 9223372036854775807 := by rw [ba_size, decDigits_length]; omega
    have hh := Ev.bind (f := fun _ t148 => if 1 + t148.size ≤ 9223372036854775807 then some ((⟨#[45]⟩ : ByteArray) ++ t148) else none) (digits_nat u (by omega)) (Ev.one fun _ => by rw [if_pos hsz])
    refine Ev.of hh fun k => ?_
    rw [warrantorref06_Digits.f, if_pos hn, hu, w64 (by omega) (by omega)]
  · obtain ⟨u, rfl⟩ : ∃ u : Nat, n = (u : Int) := ⟨n.toNat, by omega⟩
    rw [itoa, if_neg hn, Int.toNat_natCast]
    exact digits_nat u (by omega)
/-! ### Numerals are read as what they spell -/
theorem bt_list (l : List UInt8) (i : Nat) (h : i < l.length) : bt ⟨l.toArray⟩ (i : Int) = ((l[i]'h).toNat : Int) := by
  unfold bt
  simp only [Int.toNat_natCast]
  rw [dif_pos (by rw [ba_size]; exact h)]
  rfl
def spell (l : List UInt8) (n : Int) : Int := l.foldl (fun n c => 10 * n + ((c.toNat : Int) - 48)) n
theorem spell_dec (u : Nat) : spell (decDigits u) 0 = u ∧ ∀ c ∈ decDigits u, 48 ≤ c.toNat ∧ c.toNat ≤ 57 := by
  have hc : ∀ d, d < 10 → (UInt8.ofNat (48 + d)).toNat = 48 + d := fun d hd => by
    simp [UInt8.toNat_ofNat']; omega
  induction u using Nat.strongRecOn with
  | _ u ih =>
    by_cases h9 : u < 10
    · rw [dec_small h9]
      refine ⟨?_, fun c hm => ?_⟩
      · show (10 * (0 : Int) + ((UInt8.ofNat (48 + u)).toNat - 48 : Int)) = _
        rw [hc u h9]; omega
      · rw [List.mem_singleton.1 hm, hc u h9]; omega
    · rw [dec_big h9]
      have hd : u % 10 < 10 := Nat.mod_lt _ (by omega)
      obtain ⟨h1, h2⟩ := ih (u / 10) (by omega)
      refine ⟨?_, fun c hm => ?_⟩
      · unfold spell at h1 ⊢
        rw [List.foldl_append, h1]
        show (10 * ((u / 10 : Nat) : Int) + ((UInt8.ofNat (48 + u % 10)).toNat - 48 : Int)) = _
        rw [hc _ hd]; omega
      · rcases List.mem_append.1 hm with h | h
        · exact h2 c h
        · rw [List.mem_singleton.1 h, hc _ hd]; omega
theorem dg_spell (s : List UInt8) (hs : s.length ≤ 17) (sg : Int) : ∀ (m i : Nat) (n : Int), i + m = s.length → (i = 0 → ∀ c ∈ s.head?, c.toNat ≠ 45) → 0 ≤ n → n < 10 ^ i → (∀ c ∈ s.drop i, 48 ≤ c.toNat ∧ c.toNat ≤ 57) → dgF ⟨s.toArray⟩ m i n sg = (wrap64 (sg * spell (s.drop i) n), true) := by
  intro m
  induction m with
  | zero =>
    intro i n him _ _ _ _
    rw [dgF, List.drop_eq_nil_of_le (by omega)]
    rfl
  | succ m ih =>
    intro i n him h45 hn hn' hc
    have hi : i < s.length := by omega
    have hdrop : s.drop i = s[i] :: s.drop (i + 1) := List.drop_eq_getElem_cons hi
    have hci := hc s[i] (by rw [hdrop]; exact List.mem_cons_self ..)
    have hb := bt_list s i hi
    rw [dgF, hb, if_neg, if_pos (by omega)]
    · have hp : (10 : Int) ^ (i + 1) = 10 * 10 ^ i := by rw [Int.pow_succ]; omega
      have hp17 : (10 : Int) ^ i ≤ 10 ^ 16 := by
        have : (10 : Nat) ^ i ≤ 10 ^ 16 := Nat.pow_le_pow_right (by omega) (by omega)
        exact_mod_cast this
      have e1 : wrap64 (wrap64 (10 * n) + ((s[i].toNat : Int) - 48)) = 10 * n + ((s[i].toNat : Int) - 48) := by
        rw [w64 (x := 10 * n) (by omega) (by omega), w64 (by omega) (by omega)]
      rw [e1, ih (i + 1) _ (by omega) (by omega) (by omega) (by omega) (fun c h => hc c (by rw [hdrop]; exact List.mem_cons_of_mem _ h)), hdrop]
      rfl
    · rintro ⟨h1, h2⟩
      have := h45 h2 s[i] (by subst h2; cases s with | nil => simp at hi | cons a t => rfl)
      omega
end Go.Proofs.YtkailfmehmgolaaDoor.ValEv
