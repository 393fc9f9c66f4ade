import Derived.Test.YtgeemdpflcefkaaZx7
import Derived.Test.YtgeemdpflcefkaaZx8
import Derived.Test.YtgeemdpflcefkaaZx10
import Derived.Test.YtgeemdpflcefkaaZx11
import Derived.Test.YtgeemdpflcefkaaZx12
import Derived.Test.YtgeemdpflcefkaaZx13
import Derived.Test.YtgeemdpflcefkaaZx14
import Derived.Test.YtgeemdpflcefkaaZx15
import Derived.Test.YtgeemdpflcefkaaZx16
import Derived.Test.YtgeemdpflcefkaaZx17
import Derived.Test.YtgeemdpflcefkaaZoneDbm
import Derived.Test.YtgeemdpflcefkaaZx4
import Derived.Test.YtgeemdpflcefkaaZx18
import Derived.Test.YtgeemdpflcefkaaZx19
import Derived.Test.YtgeemdpflcefkaaZx39
set_option linter.unusedVariables false
set_option linter.unusedSimpArgs false
/- chapter 09: what is made of a zone, by the program and by the reference -/
namespace Go.Proofs.Ytgeemdpflcefkaa.DbmEv
open Go.RowKit Go.Proofs.Ytgeemdpflcefkaa.Z Go.Proofs.YtgeemdpflcefkaaW.PrintWords Go.Proofs.YtgeemdpflcefkaaW.PrintLast Go.Proofs.Ytgeemdpflcefkaa.DbmMath
/-! ### closing -/
theorem closeT_cases {n : Nat} {xs : List Int} (hx : xs.length = (n + 1) * (n + 1)) : (closeT n xs = [] ∧ Dead n (cut n xs)) ∨ ((closeT n xs).length = (n + 1) * (n + 1) ∧ ¬ closeT n xs = [] ∧ IsClosure n (cut n xs) (at_ n (closeT n xs))) := by
  unfold closeT
  rcases prog_close hx with ⟨a, hD⟩ | ⟨a, hD⟩
  · rw [if_pos a]
    have hl : (closeTo n xs (n + 1)).length = (n + 1) * (n + 1) := by rw [closeTo_length]; exact hx
    exact .inr ⟨hl, fun h => by rw [h] at hl; simp at hl, hD⟩
  · rw [if_neg (by rw [a]; decide)]
    exact .inl ⟨rfl, hD⟩
theorem closeT_congr {n : Nat} {xs ys : List Int} (hx : xs.length = (n + 1) * (n + 1)) (hy : ys.length = (n + 1) * (n + 1)) (h : ∀ X, Closed n X → (Under n X (cut n xs) ↔ Under n X (cut n ys))) : closeT n xs = closeT n ys := by
  rcases closeT_cases hx with ⟨a, hD⟩ | ⟨a, a0, hD⟩ <;> rcases closeT_cases hy with ⟨b, hE⟩ | ⟨b, b0, hE⟩
  · rw [a, b]
  · exact absurd ((h _ hE.1).2 hE.2.1) (hD _ hE.1)
  · exact absurd ((h _ hD.1).1 hD.2.1) (hE _ hD.1)
  · exact list_eq a b (hD.unique ⟨hE.1, (h _ hE.1).2 hE.2.1, fun X hX hu => hE.2.2 X hX ((h X hX).1 hu)⟩)
theorem under_cut {n : Nat} {X : Mat} {xs ys : List Int} (h : ∀ a b, a ≤ n → b ≤ n → at_ n xs a b ≤ at_ n ys a b) (hu : Under n X (cut n xs)) : Under n X (cut n ys) := by
  intro a b ha hb
  have h1 := hu a b ha hb
  have h2 := h a b ha hb
  unfold cut clip at h1 ⊢
  omega
theorem limitL_len (n : Nat) (xs : List Int) (i j : Nat) (c : Int) : (limitL n xs i j c).length = xs.length := by unfold limitL; rw [List.length_set]
theorem at_limit {n : Nat} {xs : List Int} {i j : Nat} (hl : xs.length = (n + 1) * (n + 1)) (hi : i ≤ n) (hj : j ≤ n) (c : Int) {a b : Nat} (ha : a ≤ n) (hb : b ≤ n) : at_ n (limitL n xs i j c) a b = if a = i ∧ b = j then min (at_ n xs i j) c else at_ n xs a b := by
  unfold limitL
  rw [at_set hl hi hj ha hb, mn_eq]; rfl
theorem limit_le {n : Nat} {xs : List Int} {i j : Nat} (hl : xs.length = (n + 1) * (n + 1)) (hi : i ≤ n) (hj : j ≤ n) (c : Int) (a b : Nat) (ha : a ≤ n) (hb : b ≤ n) : at_ n (limitL n xs i j c) a b ≤ at_ n xs a b := by
  rw [at_limit hl hi hj c ha hb]
  split
  · next h => rw [h.1, h.2]; omega
  · omega
/-- Two bounds at once, or one behind the other. -/
theorem close_equal {n : Nat} {F : List Int} (hF : F.length = (n + 1) * (n + 1)) {i j : Nat} (hi : i ≤ n) (hj : j ≤ n) (c d : Int) :
    closeT n (limitL n (limitL n F i j c) j i d) = (if closeT n (limitL n F i j c) = [] then [] else closeT n (limitL n (closeT n (limitL n F i j c)) j i d)) := by
  have hl1 : (limitL n F i j c).length = (n + 1) * (n + 1) := by rw [limitL_len]; exact hF
  have hl2 : (limitL n (limitL n F i j c) j i d).length = (n + 1) * (n + 1) := by rw [limitL_len]; exact hl1
  rcases closeT_cases hl1 with ⟨a, hD⟩ | ⟨a, a0, hE⟩
  · rw [if_pos a]
    rcases closeT_cases hl2 with ⟨b, _⟩ | ⟨_, _, hE⟩
    · exact b
    · exact absurd (under_cut (limit_le hl1 hj hi d) hE.2.1) (hD _ hE.1)
  · rw [if_neg a0]
    refine closeT_congr hl2 (by rw [limitL_len]; exact a) fun X hX => ⟨fun hu => ?_, fun hu => ?_⟩
    · have h1 := under_cut (limit_le hl1 hj hi d) hu
      have h2 := hE.2.2 X hX h1
      intro p q hp hq
      have h3 := hu p q hp hq
      have h4 := h2 p q hp hq
      unfold cut clip at h3 ⊢
      rw [at_limit hl1 hj hi d hp hq] at h3
      rw [at_limit a hj hi d hp hq]
      split
      · next h =>
        rw [if_pos h] at h3
        rw [h.1, h.2] at h3 h4 ⊢
        omega
      · next h =>
        rw [if_neg h] at h3
        omega
    · intro p q hp hq
      have h3 := hu p q hp hq
      have h4 := hE.2.1 p q hp hq
      unfold cut clip at h3 h4 ⊢
      rw [at_limit a hj hi d hp hq] at h3
      rw [at_limit hl1 hj hi d hp hq]
      split
      · next h =>
        rw [if_pos h] at h3
        rw [h.1, h.2] at h3 h4 ⊢
        omega
      · next h =>
        rw [if_neg h] at h3
        omega
/-! ### the program's steps -/
def run (n : Nat) : List (FuncId × (List Int → List Int)) → List Int → List Int
  | [], zs => zs
  | f :: fs, zs => if zs = [] then [] else run n fs (closeT n (f.2 zs))
theorem ev_done {n : Nat} (hn : n ≤ 8) : ∀ (fs : List (FuncId × (List Int → List Int))) (zs : List Int), (zs = [] ∨ zs.length = (n + 1) * (n + 1)) → (∀ f ∈ fs, ∀ ys : List Int, (f.2 ys).length = ys.length) → Ev (fun K => doneF K n fs zs) (run n fs zs)
  | [], zs, _, _ => Ev.const rfl
  | f :: fs, zs, h, hf => by
    unfold doneF run
    by_cases h0 : zs = []
    · simp only [if_pos h0]; exact Ev.const rfl
    · simp only [if_neg h0]
      have hl : (f.2 zs).length = (n + 1) * (n + 1) := by rw [hf f (List.mem_cons_self ..)]; exact h.resolve_left h0
      refine Ev.bind (ev_Close _ _) ?_
      rw [closeR_fit hn hl]
      simp only [true_and, if_pos (closeT_len n hl)]
      exact ev_done hn fs _ (closeT_len n hl) fun g hg => hf g (List.mem_cons_of_mem _ hg)
theorem ev_doneZ {n : Nat} (hn : n ≤ 8) {fs : List (FuncId × (List Int → List Int))} {zs : List Int} (h : zs = [] ∨ zs.length = (n + 1) * (n + 1)) {i j : Nat} (hi : i ≤ n) (hj : j ≤ n) (hf : ∀ f ∈ fs, ∀ ys : List Int, (f.2 ys).length = ys.length) : Ev (fun K => doneZ K (n : Int) zs (i : Int) (j : Int) fs) (run n fs zs) := by
  unfold doneZ
  have e : fitZ (n : Int) zs (i : Int) (j : Int) = true := by
    unfold fitZ
    rw [Int.toNat_natCast]
    simp only [Bool.and_eq_true, decide_eq_true_eq, Bool.or_eq_true, List.isEmpty_iff]
    exact ⟨⟨⟨⟨⟨⟨by omega, by omega⟩, by omega⟩, by omega⟩, by omega⟩, by omega⟩, h⟩
  simp only [e, if_pos, Int.toNat_natCast]
  exact ev_done hn fs zs h hf
def may (a i lo j : Int) : Int := if i < lo ∨ i > a ∨ j < 0 ∨ j > a then 1 else 0
theorem ev_may (a : Int) (xs : List Int) (i lo j : Int) : Ev (fun k => zone_may.f k a xs i lo j) (if isZone a xs = true then may a i lo j else 80) := by
  unfold zone_may.f
  refine Ev.bind (ev_Check a xs) ?_
  by_cases h : isZone a xs = true
  · simp only [if_pos h, if_pos]
    refine Ev.const ?_
    unfold may
    by_cases h1 : i < lo
    · simp [h1]
    · by_cases h2 : i > a
      · simp [h1, h2]
      · by_cases h3 : j < 0
        · simp [h1, h2, h3]
        · by_cases h4 : j > a
          · simp [h1, h2, h3, h4]
          · simp [h1, h2, h3, h4]
  · simp only [if_neg h, if_neg (show ¬ (80 : Int) = 0 by decide)]
    exact Ev.const rfl
theorem zone_fit {n : Nat} {xs : List Int} (h : isZone (n : Int) xs = true) : n ≤ 8 ∧ (xs = [] ∨ xs.length = (n + 1) * (n + 1)) := by
  obtain ⟨hn, hc⟩ := zone_len h
  exact ⟨hn, hc.elim .inl fun h => .inr h.2.1⟩
theorem free_len (i n : Nat) (xs : List Int) : ∀ k, (freeTo i n xs k).length = xs.length
  | 0 => rfl
  | k + 1 => by unfold freeTo; rw [List.length_set, List.length_set, free_len i n xs k]
theorem move_len (i n : Nat) (c : Int) (xs : List Int) : ∀ k, (moveTo i n c xs k).length = xs.length
  | 0 => rfl
  | k + 1 => by unfold moveTo; rw [List.length_set, List.length_set, move_len i n c xs k]
/-! what is made of a zone, in plain words -/
def limZ (n : Nat) (xs : List Int) (i j : Nat) (c : Int) : List Int := if xs = [] then [] else closeT n (limitL n xs i j c)
def freeZ (n : Nat) (xs : List Int) (i : Nat) : List Int := if xs = [] then [] else closeT n (freeTo i n xs (n + 1))
def letZ (n : Nat) (xs : List Int) (i j : Nat) (c : Int) : List Int :=
  if c > 2199023255552 ∨ c < -2199023255552 then [] else if i = j then (if xs = [] then [] else closeT n (moveTo i n c xs (n + 1))) else limZ n (limZ n (freeZ n xs i) i j c) j i (-c)
theorem limZ_fit {n : Nat} {xs : List Int} (h : xs = [] ∨ xs.length = (n + 1) * (n + 1)) (i j : Nat) (c : Int) : limZ n xs i j c = [] ∨ (limZ n xs i j c).length = (n + 1) * (n + 1) := by
  unfold limZ
  split
  · exact .inl rfl
  · next h0 => exact closeT_len n (by rw [limitL_len]; exact h.resolve_left h0)
theorem freeZ_fit {n : Nat} {xs : List Int} (h : xs = [] ∨ xs.length = (n + 1) * (n + 1)) (i : Nat) : freeZ n xs i = [] ∨ (freeZ n xs i).length = (n + 1) * (n + 1) := by
  unfold freeZ
  split
  · exact .inl rfl
  · next h0 => exact closeT_len n (by rw [free_len]; exact h.resolve_left h0)
theorem letZ_fit {n : Nat} {xs : List Int} (h : xs = [] ∨ xs.length = (n + 1) * (n + 1)) (i j : Nat) (c : Int) : letZ n xs i j c = [] ∨ (letZ n xs i j c).length = (n + 1) * (n + 1) := by
  unfold letZ
  split
  · exact .inl rfl
  · split
    · split
      · exact .inl rfl
      · next h0 => exact closeT_len n (by rw [move_len]; exact h.resolve_left h0)
    · exact limZ_fit (limZ_fit (freeZ_fit h i) i j c) j i _
theorem run_nil (n : Nat) (fs : List (FuncId × (List Int → List Int))) : run n fs [] = [] := by
  cases fs with
  | nil => rfl
  | cons f fs => unfold run; rw [if_pos rfl]
theorem ev_Limit {n : Nat} {xs : List Int} (hz : isZone (n : Int) xs = true) {i j : Nat} (hi : i ≤ n) (hj : j ≤ n) (c : Int) : Ev (fun k => zone_Limit.f k (n : Int) xs (i : Int) (j : Int) c) ((n : Int), limZ n xs i j c, 0) := by
  obtain ⟨hn, hx⟩ := zone_fit hz
  unfold zone_Limit.f
  refine Ev.bind (ev_may _ _ _ _ _) ?_
  have e : (if isZone (n : Int) xs = true then may (n : Int) (i : Int) 0 (j : Int) else 80) = 0 := by
    rw [if_pos hz]; unfold may; rw [if_neg (by omega)]
  simp only [e, if_pos]
  refine Ev.bind (ev_doneZ hn hx hi hj (fun f hf ys => ?_)) ?_
  · rw [List.mem_singleton] at hf; subst hf; exact limitL_len ..
  · refine Ev.const ?_
    unfold run limZ limitS run
    simp only [Int.toNat_natCast]
theorem ev_Forget {n : Nat} {xs : List Int} (hz : isZone (n : Int) xs = true) {i : Nat} (hi : i ≤ n) (h1 : 1 ≤ i) : Ev (fun k => zone_Forget.f k (n : Int) xs (i : Int)) ((n : Int), freeZ n xs i, 0) := by
  obtain ⟨hn, hx⟩ := zone_fit hz
  unfold zone_Forget.f
  refine Ev.bind (ev_may _ _ _ _ _) ?_
  have e : (if isZone (n : Int) xs = true then may (n : Int) (i : Int) 1 0 else 80) = 0 := by
    rw [if_pos hz]; unfold may; rw [if_neg (by omega)]
  simp only [e, if_pos]
  refine Ev.bind (ev_doneZ hn hx (j := 0) hi (Nat.zero_le _) (fun f hf ys => ?_)) ?_
  · rw [List.mem_singleton] at hf; subst hf; exact free_len ..
  · refine Ev.const ?_
    unfold run freeZ freeS run
    simp only [Int.toNat_natCast]
theorem ev_Let {n : Nat} {xs : List Int} (hz : isZone (n : Int) xs = true) {i j : Nat} (hi : i ≤ n) (h1 : 1 ≤ i) (hj : j ≤ n) (c : Int) : Ev (fun k => zone_Let.f k (n : Int) xs (i : Int) (j : Int) c) ((n : Int), letZ n xs i j c, 0) := by
  obtain ⟨hn, hx⟩ := zone_fit hz
  unfold zone_Let.f
  refine Ev.bind (ev_may _ _ _ _ _) ?_
  have e : (if isZone (n : Int) xs = true then may (n : Int) (i : Int) 1 (j : Int) else 80) = 0 := by
    rw [if_pos hz]; unfold may; rw [if_neg (by omega)]
  simp only [e, if_pos]
  unfold letZ
  by_cases c1 : c > 2199023255552
  · simp only [if_pos c1, if_pos (show c > 2199023255552 ∨ c < -2199023255552 from .inl c1)]; exact Ev.const rfl
  · by_cases c2 : c < -2199023255552
    · simp only [if_neg c1, if_pos c2, if_pos (show c > 2199023255552 ∨ c < -2199023255552 from .inr c2)]; exact Ev.const rfl
    · simp only [if_neg c1, if_neg c2, if_neg (show ¬ (c > 2199023255552 ∨ c < -2199023255552) from fun h => h.elim c1 c2)]
      by_cases hij : i = j
      · simp only [if_pos (show (i : Int) = (j : Int) by omega), if_pos hij]
        refine Ev.bind (ev_doneZ hn hx hi hj (fun f hf ys => ?_)) ?_
        · rw [List.mem_singleton] at hf; subst hf; exact move_len ..
        · refine Ev.const ?_
          unfold run moveS run
          simp only [Int.toNat_natCast]
      · simp only [if_neg (show ¬ (i : Int) = (j : Int) by omega), if_neg hij]
        refine Ev.bind (ev_doneZ hn hx hi hj (fun f hf ys => ?_)) ?_
        · rw [List.mem_cons, List.mem_singleton] at hf
          rcases hf with rfl | rfl
          · exact free_len ..
          · show (limitL _ (limitL _ _ _ _ _) _ _ _).length = _
            rw [limitL_len, limitL_len]
        · refine Ev.const ?_
          unfold run freeS equalS
          simp only [Int.toNat_natCast, w64 (x := -c) (by omega) (by omega)]
          unfold run run
          by_cases h0 : xs = []
          · simp only [if_pos h0, freeZ, limZ]; rfl
          · simp only [if_neg h0, freeZ]
            have hl := hx.resolve_left h0
            rcases closeT_cases (n := n) (xs := freeTo i n xs (n + 1)) (by rw [free_len]; exact hl) with ⟨a, _⟩ | ⟨a, a0, _⟩
            · rw [a]; simp only [limZ, if_pos]
            · simp only [if_neg a0, limZ]
              rw [close_equal a hi hj]
end Go.Proofs.Ytgeemdpflcefkaa.DbmEv

/- chapter 09: what the made zones are, in plain words -/
namespace Go.Proofs.Ytgeemdpflcefkaa.DbmEv
open Go.RowKit Go.Proofs.Ytgeemdpflcefkaa.Z Go.Proofs.YtgeemdpflcefkaaW.PrintWords Go.Proofs.YtgeemdpflcefkaaW.PrintLast Go.Proofs.Ytgeemdpflcefkaa.DbmMath
theorem at_free {n : Nat} {xs : List Int} (hl : xs.length = (n + 1) * (n + 1)) {i : Nat} (hi : i ≤ n) : ∀ k, k ≤ n + 1 → ∀ a b, a ≤ n → b ≤ n → at_ n (freeTo i n xs k) a b = if (a = i ∧ b < k) ∨ (b = i ∧ a < k) then 4398046511104 else at_ n xs a b
  | 0, _, a, b, _, _ => by rw [if_neg (by omega)]; rfl
  | k + 1, hk, a, b, ha, hb => by
    have ih := at_free hl hi k (by omega) a b ha hb
    have hl1 : (freeTo i n xs k).length = (n + 1) * (n + 1) := by rw [free_len]; exact hl
    unfold freeTo
    rw [at_set (by rw [List.length_set]; exact hl1) (by omega) hi ha hb, at_set hl1 hi (by omega) ha hb, ih]
    by_cases h1 : a = k ∧ b = i
    · rw [if_pos h1, if_pos (by omega)]
    · rw [if_neg h1]
      by_cases h2 : a = i ∧ b = k
      · rw [if_pos h2, if_pos (by omega)]
      · rw [if_neg h2]
        by_cases h3 : (a = i ∧ b < k) ∨ (b = i ∧ a < k)
        · rw [if_pos h3, if_pos (by omega)]
        · rw [if_neg h3, if_neg (by omega)]
theorem at_freeAll {n : Nat} {xs : List Int} (hl : xs.length = (n + 1) * (n + 1)) {i : Nat} (hi : i ≤ n) {a b : Nat} (ha : a ≤ n) (hb : b ≤ n) : at_ n (freeTo i n xs (n + 1)) a b = if a = i ∨ b = i then 4398046511104 else at_ n xs a b := by
  rw [at_free hl hi (n + 1) (Nat.le_refl _) a b ha hb]
  by_cases h : a = i ∨ b = i
  · rw [if_pos h, if_pos (by omega)]
  · rw [if_neg h, if_neg (by omega)]
theorem move_skip {n : Nat} {xs : List Int} (hl : xs.length = (n + 1) * (n + 1)) {i : Nat} (hi : i ≤ n) (c : Int) (hc : -2199023255552 ≤ c ∧ c ≤ 2199023255552) (hd : at_ n xs i i = 0) : moveTo i n c xs (i + 1) = moveTo i n c xs i := by
  have keep : ∀ k, k ≤ i → at_ n (moveTo i n c xs k) i i = 0 := by
    intro k
    induction k with
    | zero => intro _; exact hd
    | succ k ih =>
      intro hk
      have hl1 : (moveTo i n c xs k).length = (n + 1) * (n + 1) := by rw [move_len]; exact hl
      unfold moveTo
      rw [at_set (by rw [List.length_set]; exact hl1) (by omega) hi hi hi, if_neg (by omega), at_set hl1 hi (by omega) hi hi, if_neg (by omega)]
      exact ih (by omega)
  have h0 := keep i (Nat.le_refl _)
  have hl1 : (moveTo i n c xs i).length = (n + 1) * (n + 1) := by rw [move_len]; exact hl
  have hp := place_lt hi hi
  unfold at_ at h0
  rw [moveTo, h0]
  have e1 : rd ((moveTo i n c xs i).set (i * (n + 1) + i) (wrap64 (0 + c))) ((i * (n + 1) + i : Nat) : Int) = wrap64 (0 + c) := by
    rw [rd_get (by rw [List.length_set]; omega), List.getElem_set_self]
  rw [e1, w64 (x := 0 + c) (by omega) (by omega), w64 (x := 0 + c - c) (by omega) (by omega), show 0 + c - c = 0 by omega, List.set_set]
  rw [rd_get (by omega)] at h0
  rw [← h0, List.set_getElem_self]
def itvZ (n : Nat) (xs : List Int) (i : Nat) : Int × Int := if xs = [] then (1, 0) else (-(at_ n xs 0 i), at_ n xs i 0)
theorem zone_bounds {n : Nat} {xs : List Int} (hC : IsClosure n (cut n xs) (at_ n xs)) {i : Nat} (hi : i ≤ n) : -1099511627776 ≤ at_ n xs 0 i ∧ at_ n xs 0 i ≤ 1099511627776 ∧ -1099511627776 ≤ at_ n xs i 0 ∧ at_ n xs i 0 ≤ 1099511627776 ∧ 0 ≤ at_ n xs 0 i + at_ n xs i 0 := by
  have h1 := Int.le_trans (hC.2.1 0 i (Nat.zero_le _) hi) (cut_le n xs 0 i)
  have h2 := Int.le_trans (hC.2.1 i 0 hi (Nat.zero_le _)) (cut_le n xs i 0)
  have h3 := hC.1.1 0 0 i (Nat.zero_le _) (Nat.zero_le _) hi
  have h4 := hC.1.2 0 (Nat.zero_le _)
  have f1 : far 0 i ≤ 1099511627776 := by unfold far; split <;> (try split) <;> omega
  have f2 : far i 0 ≤ 1099511627776 := by unfold far; split <;> (try split) <;> (try split) <;> omega
  omega
theorem ev_Itv {n : Nat} {xs : List Int} (hz : isZone (n : Int) xs = true) {i : Nat} (hi : i ≤ n) : Ev (fun k => zone_Itv.f k (n : Int) xs (i : Int)) ((itvZ n xs i).1, (itvZ n xs i).2, 0) := by
  obtain ⟨hn, hx⟩ := zone_len hz
  unfold zone_Itv.f
  refine Ev.bind (ev_may _ _ _ _ _) ?_
  have e : (if isZone (n : Int) xs = true then may (n : Int) (i : Int) 0 0 else 80) = 0 := by
    rw [if_pos hz]; unfold may; rw [if_neg (by omega)]
  simp only [e, if_pos]
  rcases hx with hx | ⟨h0, hl, hC⟩
  · simp only [if_pos hx, itv_None.f, Option.bind_some, itvZ]
    exact Ev.const rfl
  · have ef : fitZ (n : Int) xs (i : Int) 0 = true := by
      unfold fitZ
      rw [Int.toNat_natCast]
      simp only [Bool.and_eq_true, decide_eq_true_eq, Bool.or_eq_true, List.isEmpty_iff]
      exact ⟨⟨⟨⟨⟨⟨by omega, by omega⟩, by omega⟩, by omega⟩, by omega⟩, by omega⟩, .inr hl⟩
    have hb := zone_bounds hC hi
    have e1 : rd xs ((i : Nat) : Int) = at_ n xs 0 i := by unfold at_; rw [Nat.zero_mul, Nat.zero_add]
    have e2 : rd xs ((i * (n + 1) : Nat) : Int) = at_ n xs i 0 := rfl
    simp only [if_neg h0, ef, if_pos, Int.toNat_natCast, e1, e2, val_Neg.f, val_Clip.f, Option.bind_some, itv_Of.f, mn_eq, mx_eq, itvZ]
    have e3 : min (max (at_ n xs 0 i) (-1099511627776)) 1099511627776 = at_ n xs 0 i := by omega
    rw [e3, w64 (x := -at_ n xs 0 i) (by omega) (by omega)]
    have e4 : max (-at_ n xs 0 i) (-1099511627776) = -at_ n xs 0 i := by omega
    have e5 : min (at_ n xs i 0) 1099511627776 = at_ n xs i 0 := by omega
    rw [e4, e5]
    simp only [if_neg (show ¬ -at_ n xs 0 i > at_ n xs i 0 by omega), Option.bind_some]
    exact Ev.const rfl
theorem var_f (a : Int) (xs : List Int) (i : Int) : warrantorref09_Var.f a xs i = some (decide (1 ≤ i ∧ i ≤ a)) := by
  unfold warrantorref09_Var.f
  by_cases h : i ≥ 1
  · rw [if_pos h]; simp [show 1 ≤ i from h]
  · rw [if_neg h, decide_eq_false (fun h2 => h h2.1)]
theorem or0_f (a : Int) (xs : List Int) (i : Int) : warrantorref09_Or0.f a xs i = some (decide (0 ≤ i ∧ i ≤ a)) := by
  unfold warrantorref09_Or0.f
  by_cases h : i ≥ 0
  · rw [if_pos h]; simp [show 0 ≤ i from h]
  · rw [if_neg h, decide_eq_false (fun h2 => h h2.1)]
theorem fit_le {n : Nat} (hn : n ≤ 8) {zs : List Int} (h : zs = [] ∨ zs.length = (n + 1) * (n + 1)) : zs.length ≤ 200 := by
  have := size_le hn
  rcases h with h | h
  · rw [h]; simp
  · omega
theorem same_itv (x y : Int) : (!(x == x) || (!(y == y))) = false := by simp
end Go.Proofs.Ytgeemdpflcefkaa.DbmEv
