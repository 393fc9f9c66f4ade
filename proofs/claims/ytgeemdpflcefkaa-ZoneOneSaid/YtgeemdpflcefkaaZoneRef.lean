import Derived.Test.YtgeemdpflcefkaaZx7
import Derived.Test.YtgeemdpflcefkaaZx8
import Derived.Test.YtgeemdpflcefkaaZx10
import Derived.Test.YtgeemdpflcefkaaZx11
import Derived.Test.YtgeemdpflcefkaaZx12
import Derived.Test.YtgeemdpflcefkaaZx13
import Derived.Test.YtgeemdpflcefkaaZx14
import Derived.Test.YtgeemdpflcefkaaZx15
import Derived.Test.YtgeemdpflcefkaaZx16
import Derived.Test.YtgeemdpflcefkaaZx17
import Derived.Test.YtgeemdpflcefkaaZoneDbm
import Derived.Test.YtgeemdpflcefkaaZx4
import Derived.Test.YtgeemdpflcefkaaZx18
import Derived.Test.YtgeemdpflcefkaaZx19
import Derived.Test.YtgeemdpflcefkaaZx39
import Derived.Test.YtgeemdpflcefkaaZx40
set_option linter.unusedVariables false
set_option linter.unusedSimpArgs false
/- chapter 09: what is made of a zone, by the program and by the reference -/
namespace Go.Proofs.Ytgeemdpflcefkaa.DbmEv
open Go.RowKit Go.Proofs.Ytgeemdpflcefkaa.Z Go.Proofs.YtgeemdpflcefkaaW.PrintWords Go.Proofs.YtgeemdpflcefkaaW.PrintLast Go.Proofs.Ytgeemdpflcefkaa.DbmMath
/-! ### closing -/
theorem closeT_cases {n : Nat} {xs : List Int} (hx : xs.length = (n + 1) * (n + 1)) : (closeT n xs = [] ∧ Dead n (cut n xs)) ∨ ((closeT n xs).length = (n + 1) * (n + 1) ∧ ¬ closeT n xs = [] ∧ IsClosure n (cut n xs) (at_ n (closeT n xs))) := by
  unfold closeT
  rcases prog_close hx with ⟨a, hD⟩ | ⟨a, hD⟩
  · rw [if_pos a]
    have hl : (closeTo n xs (n + 1)).length = (n + 1) * (n + 1) := by rw [closeTo_length]; exact hx
    exact .inr ⟨hl, fun h => by rw [h] at hl; simp at hl, hD⟩
  · rw [if_neg (by rw [a]; decide)]
    exact .inl ⟨rfl, hD⟩
theorem closeT_congr {n : Nat} {xs ys : List Int} (hx : xs.length = (n + 1) * (n + 1)) (hy : ys.length = (n + 1) * (n + 1)) (h : ∀ X, Closed n X → (Under n X (cut n xs) ↔ Under n X (cut n ys))) : closeT n xs = closeT n ys := by
  rcases closeT_cases hx with ⟨a, hD⟩ | ⟨a, a0, hD⟩ <;> rcases closeT_cases hy with ⟨b, hE⟩ | ⟨b, b0, hE⟩
  · rw [a, b]
  · exact absurd ((h _ hE.1).2 hE.2.1) (hD _ hE.1)
  · exact absurd ((h _ hD.1).1 hD.2.1) (hE _ hD.1)
  · exact list_eq a b (hD.unique ⟨hE.1, (h _ hE.1).2 hE.2.1, fun X hX hu => hE.2.2 X hX ((h X hX).1 hu)⟩)
theorem under_cut {n : Nat} {X : Mat} {xs ys : List Int} (h : ∀ a b, a ≤ n → b ≤ n → at_ n xs a b ≤ at_ n ys a b) (hu : Under n X (cut n xs)) : Under n X (cut n ys) := by
  intro a b ha hb
  have h1 := hu a b ha hb
  have h2 := h a b ha hb
  unfold cut clip at h1 ⊢
  omega
theorem limitL_len (n : Nat) (xs : List Int) (i j : Nat) (c : Int) : (limitL n xs i j c).length = xs.length := by unfold limitL; rw [List.length_set]
theorem at_limit {n : Nat} {xs : List Int} {i j : Nat} (hl : xs.length = (n + 1) * (n + 1)) (hi : i ≤ n) (hj : j ≤ n) (c : Int) {a b : Nat} (ha : a ≤ n) (hb : b ≤ n) : at_ n (limitL n xs i j c) a b = if a = i ∧ b = j then min (at_ n xs i j) c else at_ n xs a b := by
  unfold limitL
  rw [at_set hl hi hj ha hb, mn_eq]; rfl
theorem limit_le {n : Nat} {xs : List Int} {i j : Nat} (hl : xs.length = (n + 1) * (n + 1)) (hi : i ≤ n) (hj : j ≤ n) (c : Int) (a b : Nat) (ha : a ≤ n) (hb : b ≤ n) : at_ n (limitL n xs i j c) a b ≤ at_ n xs a b := by
  rw [at_limit hl hi hj c ha hb]
  split
  · next h => rw [h.1, h.2]; omega
  · omega
/-- Two bounds at once, or one behind the other. -/
theorem close_equal {n : Nat} {F : List Int} (hF : F.length = (n + 1) * (n + 1)) {i j : Nat} (hi : i ≤ n) (hj : j ≤ n) (c d : Int) :
    closeT n (limitL n (limitL n F i j c) j i d) = (if closeT n (limitL n F i j c) = [] then [] else closeT n (limitL n (closeT n (limitL n F i j c)) j i d)) := by
  have hl1 : (limitL n F i j c).length = (n + 1) * (n + 1) := by rw [limitL_len]; exact hF
  have hl2 : (limitL n (limitL n F i j c) j i d).length = (n + 1) * (n + 1) := by rw [limitL_len]; exact hl1
  rcases closeT_cases hl1 with ⟨a, hD⟩ | ⟨a, a0, hE⟩
  · rw [if_pos a]
    rcases closeT_cases hl2 with ⟨b, _⟩ | ⟨_, _, hE⟩
    · exact b
    · exact absurd (under_cut (limit_le hl1 hj hi d) hE.2.1) (hD _ hE.1)
  · rw [if_neg a0]
    refine closeT_congr hl2 (by rw [limitL_len]; exact a) fun X hX => ⟨fun hu => ?_, fun hu => ?_⟩
    · have h1 := under_cut (limit_le hl1 hj hi d) hu
      have h2 := hE.2.2 X hX h1
      intro p q hp hq
      have h3 := hu p q hp hq
      have h4 := h2 p q hp hq
      unfold cut clip at h3 ⊢
      rw [at_limit hl1 hj hi d hp hq] at h3
      rw [at_limit a hj hi d hp hq]
      split
      · next h =>
        rw [if_pos h] at h3
        rw [h.1, h.2] at h3 h4 ⊢
        omega
      · next h =>
        rw [if_neg h] at h3
        omega
    · intro p q hp hq
      have h3 := hu p q hp hq
      have h4 := hE.2.1 p q hp hq
      unfold cut clip at h3 h4 ⊢
      rw [at_limit a hj hi d hp hq] at h3
      rw [at_limit hl1 hj hi d hp hq]
      split
      · next h =>
        rw [if_pos h] at h3
        rw [h.1, h.2] at h3 h4 ⊢
        omega
      · next h =>
        rw [if_neg h] at h3
        omega
/-! ### the program's steps -/
def run (n : Nat) : List (FuncId × (List Int → List Int)) → List Int → List Int
  | [], zs => zs
  | f :: fs, zs => if zs = [] then [] else run n fs (closeT n (f.2 zs))
theorem ev_done {n : Nat} (hn : n ≤ 8) : ∀ (fs : List (FuncId × (List Int → List Int))) (zs : List Int), (zs = [] ∨ zs.length = (n + 1) * (n + 1)) → (∀ f ∈ fs, ∀ ys : List Int, (f.2 ys).length = ys.length) → Ev (fun K => doneF K n fs zs) (run n fs zs)
  | [], zs, _, _ => Ev.const rfl
  | f :: fs, zs, h, hf => by
    unfold doneF run
    by_cases h0 : zs = []
    · simp only [if_pos h0]; exact Ev.const rfl
    · simp only [if_neg h0]
      have hl : (f.2 zs).length = (n + 1) * (n + 1) := by rw [hf f (List.mem_cons_self ..)]; exact h.resolve_left h0
      refine Ev.bind (ev_Close _ _) ?_
      rw [closeR_fit hn hl]
      simp only [true_and, if_pos (closeT_len n hl)]
      exact ev_done hn fs _ (closeT_len n hl) fun g hg => hf g (List.mem_cons_of_mem _ hg)
theorem ev_doneZ {n : Nat} (hn : n ≤ 8) {fs : List (FuncId × (List Int → List Int))} {zs : List Int} (h : zs = [] ∨ zs.length = (n + 1) * (n + 1)) {i j : Nat} (hi : i ≤ n) (hj : j ≤ n) (hf : ∀ f ∈ fs, ∀ ys : List Int, (f.2 ys).length = ys.length) : Ev (fun K => doneZ K (n : Int) zs (i : Int) (j : Int) fs) (run n fs zs) := by
  unfold doneZ
  have e : fitZ (n : Int) zs (i : Int) (j : Int) = true := by
    unfold fitZ
    rw [Int.toNat_natCast]
    simp only [Bool.and_eq_true, decide_eq_true_eq, Bool.or_eq_true, List.isEmpty_iff]
    exact ⟨⟨⟨⟨⟨⟨by omega, by omega⟩, by omega⟩, by omega⟩, by omega⟩, by omega⟩, h⟩
  simp only [e, if_pos, Int.toNat_natCast]
  exact ev_done hn fs zs h hf
def may (a i lo j : Int) : Int := if i < lo ∨ i > a ∨ j < 0 ∨ j > a then 1 else 0
theorem ev_may (a : Int) (xs : List Int) (i lo j : Int) : Ev (fun k => zone_may.f k a xs i lo j) (if isZone a xs = true then may a i lo j else 80) := by
  unfold zone_may.f
  refine Ev.bind (ev_Check a xs) ?_
  by_cases h : isZone a xs = true
  · simp only [if_pos h, if_pos]
    refine Ev.const ?_
    unfold may
    by_cases h1 : i < lo
    · simp [h1]
    · by_cases h2 : i > a
      · simp [h1, h2]
      · by_cases h3 : j < 0
        · simp [h1, h2, h3]
        · by_cases h4 : j > a
          · simp [h1, h2, h3, h4]
          · simp [h1, h2, h3, h4]
  · simp only [if_neg h, if_neg (show ¬ (80 : Int) = 0 by decide)]
    exact Ev.const rfl
theorem zone_fit {n : Nat} {xs : List Int} (h : isZone (n : Int) xs = true) : n ≤ 8 ∧ (xs = [] ∨ xs.length = (n + 1) * (n + 1)) := by
  obtain ⟨hn, hc⟩ := zone_len h
  exact ⟨hn, hc.elim .inl fun h => .inr h.2.1⟩
theorem free_len (i n : Nat) (xs : List Int) : ∀ k, (freeTo i n xs k).length = xs.length
  | 0 => rfl
  | k + 1 => by unfold freeTo; rw [List.length_set, List.length_set, free_len i n xs k]
theorem move_len (i n : Nat) (c : Int) (xs : List Int) : ∀ k, (moveTo i n c xs k).length = xs.length
  | 0 => rfl
  | k + 1 => by unfold moveTo; rw [List.length_set, List.length_set, move_len i n c xs k]
/-! what is made of a zone, in plain words -/
def limZ (n : Nat) (xs : List Int) (i j : Nat) (c : Int) : List Int := if xs = [] then [] else closeT n (limitL n xs i j c)
def freeZ (n : Nat) (xs : List Int) (i : Nat) : List Int := if xs = [] then [] else closeT n (freeTo i n xs (n + 1))
def letZ (n : Nat) (xs : List Int) (i j : Nat) (c : Int) : List Int :=
  if c > 2199023255552 ∨ c < -2199023255552 then [] else if i = j then (if xs = [] then [] else closeT n (moveTo i n c xs (n + 1))) else limZ n (limZ n (freeZ n xs i) i j c) j i (-c)
theorem limZ_fit {n : Nat} {xs : List Int} (h : xs = [] ∨ xs.length = (n + 1) * (n + 1)) (i j : Nat) (c : Int) : limZ n xs i j c = [] ∨ (limZ n xs i j c).length = (n + 1) * (n + 1) := by
  unfold limZ
  split
  · exact .inl rfl
  · next h0 => exact closeT_len n (by rw [limitL_len]; exact h.resolve_left h0)
theorem freeZ_fit {n : Nat} {xs : List Int} (h : xs = [] ∨ xs.length = (n + 1) * (n + 1)) (i : Nat) : freeZ n xs i = [] ∨ (freeZ n xs i).length = (n + 1) * (n + 1) := by
  unfold freeZ
  split
  · exact .inl rfl
  · next h0 => exact closeT_len n (by rw [free_len]; exact h.resolve_left h0)
theorem letZ_fit {n : Nat} {xs : List Int} (h : xs = [] ∨ xs.length = (n + 1) * (n + 1)) (i j : Nat) (c : Int) : letZ n xs i j c = [] ∨ (letZ n xs i j c).length = (n + 1) * (n + 1) := by
  unfold letZ
  split
  · exact .inl rfl
  · split
    · split
      · exact .inl rfl
      · next h0 => exact closeT_len n (by rw [move_len]; exact h.resolve_left h0)
    · exact limZ_fit (limZ_fit (freeZ_fit h i) i j c) j i _
theorem run_nil (n : Nat) (fs : List (FuncId × (List Int → List Int))) : run n fs [] = [] := by
  cases fs with
  | nil => rfl
  | cons f fs => unfold run; rw [if_pos rfl]
theorem ev_Limit {n : Nat} {xs : List Int} (hz : isZone (n : Int) xs = true) {i j : Nat} (hi : i ≤ n) (hj : j ≤ n) (c : Int) : Ev (fun k => zone_Limit.f k (n : Int) xs (i : Int) (j : Int) c) ((n : Int), limZ n xs i j c, 0) := by
  obtain ⟨hn, hx⟩ := zone_fit hz
  unfold zone_Limit.f
  refine Ev.bind (ev_may _ _ _ _ _) ?_
  have e : (if isZone (n : Int) xs = true then may (n : Int) (i : Int) 0 (j : Int) else 80) = 0 := by
    rw [if_pos hz]; unfold may; rw [if_neg (by omega)]
  simp only [e, if_pos]
  refine Ev.bind (ev_doneZ hn hx hi hj (fun f hf ys => ?_)) ?_
  · rw [List.mem_singleton] at hf; subst hf; exact limitL_len ..
  · refine Ev.const ?_
    unfold run limZ limitS run
    simp only [Int.toNat_natCast]
theorem ev_Forget {n : Nat} {xs : List Int} (hz : isZone (n : Int) xs = true) {i : Nat} (hi : i ≤ n) (h1 : 1 ≤ i) : Ev (fun k => zone_Forget.f k (n : Int) xs (i : Int)) ((n : Int), freeZ n xs i, 0) := by
  obtain ⟨hn, hx⟩ := zone_fit hz
  unfold zone_Forget.f
  refine Ev.bind (ev_may _ _ _ _ _) ?_
  have e : (if isZone (n : Int) xs = true then may (n : Int) (i : Int) 1 0 else 80) = 0 := by
    rw [if_pos hz]; unfold may; rw [if_neg (by omega)]
  simp only [e, if_pos]
  refine Ev.bind (ev_doneZ hn hx (j := 0) hi (Nat.zero_le _) (fun f hf ys => ?_)) ?_
  · rw [List.mem_singleton] at hf; subst hf; exact free_len ..
  · refine Ev.const ?_
    unfold run freeZ freeS run
    simp only [Int.toNat_natCast]
theorem ev_Let {n : Nat} {xs : List Int} (hz : isZone (n : Int) xs = true) {i j : Nat} (hi : i ≤ n) (h1 : 1 ≤ i) (hj : j ≤ n) (c : Int) : Ev (fun k => zone_Let.f k (n : Int) xs (i : Int) (j : Int) c) ((n : Int), letZ n xs i j c, 0) := by
  obtain ⟨hn, hx⟩ := zone_fit hz
  unfold zone_Let.f
  refine Ev.bind (ev_may _ _ _ _ _) ?_
  have e : (if isZone (n : Int) xs = true then may (n : Int) (i : Int) 1 (j : Int) else 80) = 0 := by
    rw [if_pos hz]; unfold may; rw [if_neg (by omega)]
  simp only [e, if_pos]
  unfold letZ
  by_cases c1 : c > 2199023255552
  · simp only [if_pos c1, if_pos (show c > 2199023255552 ∨ c < -2199023255552 from .inl c1)]; exact Ev.const rfl
  · by_cases c2 : c < -2199023255552
    · simp only [if_neg c1, if_pos c2, if_pos (show c > 2199023255552 ∨ c < -2199023255552 from .inr c2)]; exact Ev.const rfl
    · simp only [if_neg c1, if_neg c2, if_neg (show ¬ (c > 2199023255552 ∨ c < -2199023255552) from fun h => h.elim c1 c2)]
      by_cases hij : i = j
      · simp only [if_pos (show (i : Int) = (j : Int) by omega), if_pos hij]
        refine Ev.bind (ev_doneZ hn hx hi hj (fun f hf ys => ?_)) ?_
        · rw [List.mem_singleton] at hf; subst hf; exact move_len ..
        · refine Ev.const ?_
          unfold run moveS run
          simp only [Int.toNat_natCast]
      · simp only [if_neg (show ¬ (i : Int) = (j : Int) by omega), if_neg hij]
        refine Ev.bind (ev_doneZ hn hx hi hj (fun f hf ys => ?_)) ?_
        · rw [List.mem_cons, List.mem_singleton] at hf
          rcases hf with rfl | rfl
          · exact free_len ..
          · show (limitL _ (limitL _ _ _ _ _) _ _ _).length = _
            rw [limitL_len, limitL_len]
        · refine Ev.const ?_
          unfold run freeS equalS
          simp only [Int.toNat_natCast, w64 (x := -c) (by omega) (by omega)]
          unfold run run
          by_cases h0 : xs = []
          · simp only [if_pos h0, freeZ, limZ]; rfl
          · simp only [if_neg h0, freeZ]
            have hl := hx.resolve_left h0
            rcases closeT_cases (n := n) (xs := freeTo i n xs (n + 1)) (by rw [free_len]; exact hl) with ⟨a, _⟩ | ⟨a, a0, _⟩
            · rw [a]; simp only [limZ, if_pos]
            · simp only [if_neg a0, limZ]
              rw [close_equal a hi hj]
end Go.Proofs.Ytgeemdpflcefkaa.DbmEv

/- chapter 09: what the reference makes of a zone -/
namespace Go.Proofs.Ytgeemdpflcefkaa.DbmEv
open Go.RowKit Go.Proofs.Ytgeemdpflcefkaa.Z Go.Proofs.YtgeemdpflcefkaaW.PrintWords Go.Proofs.YtgeemdpflcefkaaW.PrintLast Go.Proofs.Ytgeemdpflcefkaa.DbmMath
theorem sq_le {n i j : Nat} (hn : n ≤ 8) (hi : i ≤ n) (hj : j ≤ n) : i * (n + 1) + j < 81 := by
  have := place_lt hi hj
  have := size_le hn
  omega
theorem idx {n : Nat} (hn : n ≤ 8) {i j : Nat} (hi : i ≤ n) (hj : j ≤ n) : wrap64 ((wrap64 ((i : Int) * ((n + 1 : Nat) : Int))) + (j : Int)) = ((i * (n + 1) + j : Nat) : Int) := by
  have h := sq_le hn hi hj
  have e : (i : Int) * ((n + 1 : Nat) : Int) = ((i * (n + 1) : Nat) : Int) := by rw [Int.natCast_mul]
  rw [e, w64 (x := ((i * (n + 1) : Nat) : Int)) (by omega) (by omega), w64 (by omega) (by omega)]
  omega
theorem ev_refLimit {n : Nat} (hn : n ≤ 8) {xs : List Int} (hx : xs = [] ∨ xs.length = (n + 1) * (n + 1)) {i j : Nat} (hi : i ≤ n) (hj : j ≤ n) (c : Int) : Ev (fun k => warrantorref09_Limit.f k (n : Int) xs (i : Int) (j : Int) c) ((n : Int), limZ n xs i j c) := by
  unfold warrantorref09_Limit.f limZ
  by_cases h0 : xs = []
  · simp only [if_pos (show (xs.length : Int) = 0 by rw [h0]; rfl), if_pos h0]
    exact Ev.const (by rw [h0])
  · have hl := hx.resolve_left h0
    have hp := place_lt hi hj
    have hs := size_le hn
    have hlp := List.length_pos_iff.2 h0
    simp only [if_neg (show ¬ (xs.length : Int) = 0 by omega), if_neg h0, Option.bind_some, List.length_nil, Nat.zero_add, if_pos (show xs.length < 17592186044416 by omega), List.nil_append, ref_at n hn i j hi hj, if_pos (show (0 : Int) ≤ ((i * (n + 1) + j : Nat) : Int) by omega), if_pos (show ((i * (n + 1) + j : Nat) : Int) < (xs.length : Int) by omega), Int.toNat_natCast]
    have e1 : limitL n xs i j c = xs.set (i * (n + 1) + j) (min (rd xs ((i * (n + 1) + j : Nat) : Int)) c) := by unfold limitL; rw [mn_eq]
    by_cases hc : c < rd xs ((i * (n + 1) + j : Nat) : Int)
    · simp only [if_pos hc]
      rw [e1, show min (rd xs ((i * (n + 1) + j : Nat) : Int)) c = c by omega]
      exact Ev.bind (ev_refClose hn (by rw [List.length_set]; exact hl)) (Ev.const rfl)
    · simp only [if_neg hc]
      rw [e1, show min (rd xs ((i * (n + 1) + j : Nat) : Int)) c = rd xs ((i * (n + 1) + j : Nat) : Int) by omega, rd_get (show i * (n + 1) + j < xs.length by omega), List.set_getElem_self]
      exact Ev.bind (ev_refClose hn hl) (Ev.const rfl)
/-! ### forgetting -/
theorem at_free {n : Nat} {xs : List Int} (hl : xs.length = (n + 1) * (n + 1)) {i : Nat} (hi : i ≤ n) : ∀ k, k ≤ n + 1 → ∀ a b, a ≤ n → b ≤ n → at_ n (freeTo i n xs k) a b = if (a = i ∧ b < k) ∨ (b = i ∧ a < k) then 4398046511104 else at_ n xs a b
  | 0, _, a, b, _, _ => by rw [if_neg (by omega)]; rfl
  | k + 1, hk, a, b, ha, hb => by
    have ih := at_free hl hi k (by omega) a b ha hb
    have hl1 : (freeTo i n xs k).length = (n + 1) * (n + 1) := by rw [free_len]; exact hl
    unfold freeTo
    rw [at_set (by rw [List.length_set]; exact hl1) (by omega) hi ha hb, at_set hl1 hi (by omega) ha hb, ih]
    by_cases h1 : a = k ∧ b = i
    · rw [if_pos h1, if_pos (by omega)]
    · rw [if_neg h1]
      by_cases h2 : a = i ∧ b = k
      · rw [if_pos h2, if_pos (by omega)]
      · rw [if_neg h2]
        by_cases h3 : (a = i ∧ b < k) ∨ (b = i ∧ a < k)
        · rw [if_pos h3, if_pos (by omega)]
        · rw [if_neg h3, if_neg (by omega)]
theorem at_freeAll {n : Nat} {xs : List Int} (hl : xs.length = (n + 1) * (n + 1)) {i : Nat} (hi : i ≤ n) {a b : Nat} (ha : a ≤ n) (hb : b ≤ n) : at_ n (freeTo i n xs (n + 1)) a b = if a = i ∨ b = i then 4398046511104 else at_ n xs a b := by
  rw [at_free hl hi (n + 1) (Nat.le_refl _) a b ha hb]
  by_cases h : a = i ∨ b = i
  · rw [if_pos h, if_pos (by omega)]
  · rw [if_neg h, if_neg (by omega)]
def freeM (n : Nat) (xs : List Int) (i : Nat) : Mat := fun a b => if a = i ∨ b = i then 4398046511104 else at_ n xs a b
theorem free_pre {n : Nat} {xs : List Int} (hl : xs.length = (n + 1) * (n + 1)) {i : Nat} (hi : i ≤ n) : freeTo i n xs (n + 1) = pre n (freeM n xs i) ((n + 1) * (n + 1)) := by
  refine list_eq (n := n) (by rw [free_len]; exact hl) (pre_len _ _ _) fun a b ha hb => ?_
  rw [at_freeAll hl hi ha hb, pre_at ha hb]; rfl
theorem pre_one (n : Nat) (G : Mat) (p : Nat) : pre n G p ++ [G (p / (n + 1)) (p % (n + 1))] = pre n G (p + 1) := by
  unfold pre; rw [List.range_succ, List.map_append, List.map_singleton]
theorem ev_refForget {n : Nat} (hn : n ≤ 8) {xs : List Int} (hx : xs = [] ∨ xs.length = (n + 1) * (n + 1)) {i : Nat} (hi : i ≤ n) : Ev (fun k => warrantorref09_Forget.f k (n : Int) xs (i : Int)) ((n : Int), freeZ n xs i) := by
  unfold warrantorref09_Forget.f freeZ
  by_cases h0 : xs = []
  · simp only [if_pos (show (xs.length : Int) = 0 by rw [h0]; rfl), if_pos h0]
    exact Ev.const (by rw [h0])
  · have hl := hx.resolve_left h0
    have hs := size_le hn
    have hlp := List.length_pos_iff.2 h0
    simp only [if_neg (show ¬ (xs.length : Int) = 0 by omega), if_neg h0, succ_nat n (by omega)]
    rw [free_pre hl hi]
    have esq : wrap64 (((n + 1 : Nat) : Int) * ((n + 1 : Nat) : Int)) = (((n + 1) * (n + 1) : Nat) : Int) := by
      rw [← Int.natCast_mul, w64 (by omega) (by omega)]
    have key := Ev.up0 (l := fun k p => warrantorref09_Forget.l0 k (i : Int) ((n + 1 : Nat) : Int) (pre n (freeM n xs i) p) (p : Int) (n : Int) xs) (N := (n + 1) * (n + 1)) (r := ((n : Int), closeT n (pre n (freeM n xs i) ((n + 1) * (n + 1))))) ?_ ?_
    · exact key
    · refine Ev.succ (fun k => by rw [warrantorref09_Forget.l0]) ?_
      simp only [esq, if_neg (Int.lt_irrefl _)]
      exact Ev.bind (ev_refClose hn (pre_len _ _ _)) (Ev.const rfl)
    · intro p hp h
      refine Ev.succ (fun k => by rw [warrantorref09_Forget.l0]) ?_
      have ed : Int.tdiv (p : Int) ((n + 1 : Nat) : Int) = ((p / (n + 1) : Nat) : Int) := by
        rw [Int.tdiv_eq_ediv_of_nonneg (by omega)]; rfl
      have em : Int.tmod (p : Int) ((n + 1 : Nat) : Int) = ((p % (n + 1) : Nat) : Int) := by
        rw [Int.tmod_eq_emod_of_nonneg (by omega)]; rfl
      have hd : p / (n + 1) ≤ p := Nat.div_le_self _ _
      have ew : wrap64 ((p / (n + 1) : Nat) : Int) = ((p / (n + 1) : Nat) : Int) := by
        generalize p / (n + 1) = q at hd ⊢
        exact w64 (by omega) (by omega)
      rw [← pre_one] at h
      simp only [esq, if_pos (show (p : Int) < (((n + 1) * (n + 1) : Nat) : Int) by omega), if_neg (show ¬ ((n + 1 : Nat) : Int) = 0 by omega), ed, em, ew, pre_len, if_pos (show p < 17592186044416 by omega), succ_nat p (by omega)]
      by_cases c1 : p / (n + 1) = i
      · simp only [if_pos (Int.ofNat_inj.2 c1 : ((p / (n + 1) : Nat) : Int) = (i : Int))]
        rw [show freeM n xs i (p / (n + 1)) (p % (n + 1)) = 4398046511104 by unfold freeM; rw [if_pos (.inl c1)]] at h
        exact h
      · simp only [if_neg (fun h => c1 (Int.ofNat_inj.1 h) : ¬ ((p / (n + 1) : Nat) : Int) = (i : Int))]
        by_cases c2 : p % (n + 1) = i
        · simp only [if_pos (Int.ofNat_inj.2 c2 : ((p % (n + 1) : Nat) : Int) = (i : Int))]
          rw [show freeM n xs i (p / (n + 1)) (p % (n + 1)) = 4398046511104 by unfold freeM; rw [if_pos (.inr c2)]] at h
          exact h
        · simp only [if_neg (fun h => c2 (Int.ofNat_inj.1 h) : ¬ ((p % (n + 1) : Nat) : Int) = (i : Int)), if_pos (show (0 : Int) ≤ (p : Int) by omega), if_pos (show (p : Int) < (xs.length : Int) by omega)]
          have e : freeM n xs i (p / (n + 1)) (p % (n + 1)) = rd xs (p : Int) := by
            unfold freeM at_
            rw [if_neg (fun h => h.elim c1 c2)]
            have hq : p / (n + 1) * (n + 1) + p % (n + 1) = p := by
              have := Nat.div_add_mod p (n + 1)
              rw [Nat.mul_comm] at this
              exact this
            rw [hq]
          rw [e] at h
          exact h
/-! ### moving -/
theorem move_skip {n : Nat} {xs : List Int} (hl : xs.length = (n + 1) * (n + 1)) {i : Nat} (hi : i ≤ n) (c : Int) (hc : -2199023255552 ≤ c ∧ c ≤ 2199023255552) (hd : at_ n xs i i = 0) : moveTo i n c xs (i + 1) = moveTo i n c xs i := by
  have keep : ∀ k, k ≤ i → at_ n (moveTo i n c xs k) i i = 0 := by
    intro k
    induction k with
    | zero => intro _; exact hd
    | succ k ih =>
      intro hk
      have hl1 : (moveTo i n c xs k).length = (n + 1) * (n + 1) := by rw [move_len]; exact hl
      unfold moveTo
      rw [at_set (by rw [List.length_set]; exact hl1) (by omega) hi hi hi, if_neg (by omega), at_set hl1 hi (by omega) hi hi, if_neg (by omega)]
      exact ih (by omega)
  have h0 := keep i (Nat.le_refl _)
  have hl1 : (moveTo i n c xs i).length = (n + 1) * (n + 1) := by rw [move_len]; exact hl
  have hp := place_lt hi hi
  unfold at_ at h0
  rw [moveTo, h0]
  have e1 : rd ((moveTo i n c xs i).set (i * (n + 1) + i) (wrap64 (0 + c))) ((i * (n + 1) + i : Nat) : Int) = wrap64 (0 + c) := by
    rw [rd_get (by rw [List.length_set]; omega), List.getElem_set_self]
  rw [e1, w64 (x := 0 + c) (by omega) (by omega), w64 (x := 0 + c - c) (by omega) (by omega), show 0 + c - c = 0 by omega, List.set_set]
  rw [rd_get (by omega)] at h0
  rw [← h0, List.set_getElem_self]
theorem ev_refLet {n : Nat} (hn : n ≤ 8) {xs : List Int} (hx : xs = [] ∨ (¬ xs = [] ∧ xs.length = (n + 1) * (n + 1) ∧ IsClosure n (cut n xs) (at_ n xs))) {i j : Nat} (hi : i ≤ n) (hj : j ≤ n) (c : Int) : Ev (fun k => warrantorref09_Let.f k (n : Int) xs (i : Int) (j : Int) c) ((n : Int), letZ n xs i j c) := by
  have hx2 : xs = [] ∨ xs.length = (n + 1) * (n + 1) := hx.elim .inl fun h => .inr h.2.1
  unfold warrantorref09_Let.f letZ
  have no : Ev (fun k => warrantorref09_Let.j0 k (i : Int) (j : Int) c true (n : Int) xs) ((n : Int), []) := by
    refine Ev.succ (fun k => by rw [warrantorref09_Let.j0]) ?_
    simp only [if_pos]
    exact Ev.const rfl
  by_cases c1 : c > 2199023255552
  · simp only [if_pos c1, if_pos (show c > 2199023255552 ∨ c < -2199023255552 from .inl c1)]; exact no
  · by_cases c2 : c < -2199023255552
    · simp only [if_neg c1, if_pos c2, if_pos (show c > 2199023255552 ∨ c < -2199023255552 from .inr c2)]; exact no
    · simp only [if_neg c1, if_neg c2, if_neg (show ¬ (c > 2199023255552 ∨ c < -2199023255552) from fun h => h.elim c1 c2)]
      by_cases h0 : xs = []
      · rw [show ((xs.length : Int) == 0) = true by rw [h0]; rfl]
        have e : (if i = j then (if xs = [] then [] else closeT n (moveTo i n c xs (n + 1))) else limZ n (limZ n (freeZ n xs i) i j c) j i (-c)) = ([] : List Int) := by
          simp only [freeZ, limZ, if_pos h0, if_pos, ite_self]
        rw [e]; exact no
      · obtain ⟨_, hl, hC⟩ := hx.resolve_left h0
        have hlp := List.length_pos_iff.2 h0
        have hs := size_le hn
        rw [beq_eq_false_iff_ne.2 (show ¬ (xs.length : Int) = 0 by omega)]
        refine Ev.succ (fun k => by rw [warrantorref09_Let.j0]) ?_
        simp only [if_neg Bool.false_ne_true]
        by_cases hij : i = j
        · simp only [if_pos (show (i : Int) = (j : Int) by omega), if_pos hij, if_neg h0, Option.bind_some, List.length_nil, Nat.zero_add, if_pos (show xs.length < 17592186044416 by omega), List.nil_append, succ_nat n (by omega)]
          have hd : at_ n xs i i = 0 := hC.1.diag hC.2.1 (cut_le n xs) hi
          have key := Ev.up0 (l := fun k t => warrantorref09_Let.l0 k (i : Int) c ((n + 1 : Nat) : Int) (moveTo i n c xs t) (t : Int) (n : Int) xs) (N := n + 1) (r := ((n : Int), closeT n (moveTo i n c xs (n + 1)))) ?_ ?_
          · exact key
          · refine Ev.succ (fun k => by rw [warrantorref09_Let.l0]) ?_
            simp only [if_neg (Int.lt_irrefl _)]
            exact Ev.bind (ev_refClose hn (by rw [move_len]; exact hl)) (Ev.const rfl)
          · intro t ht h
            refine Ev.succ (fun k => by rw [warrantorref09_Let.l0]) ?_
            simp only [if_pos (show (t : Int) < ((n + 1 : Nat) : Int) by omega), succ_nat t (by omega)]
            by_cases hti : t = i
            · subst hti
              simp only [if_pos]
              rw [move_skip hl hi c (by omega) hd] at h
              exact h
            · have p1 := place_lt (show i ≤ n from hi) (show t ≤ n by omega)
              have p2 := place_lt (show t ≤ n by omega) (show i ≤ n from hi)
              simp only [if_neg (show ¬ (t : Int) = (i : Int) by omega), idx hn hi (show t ≤ n by omega), idx hn (show t ≤ n by omega) hi, if_pos (show (0 : Int) ≤ ((i * (n + 1) + t : Nat) : Int) by omega), if_pos (show (0 : Int) ≤ ((t * (n + 1) + i : Nat) : Int) by omega), move_len, if_pos (show ((i * (n + 1) + t : Nat) : Int) < (xs.length : Int) by omega), if_pos (show ((t * (n + 1) + i : Nat) : Int) < (xs.length : Int) by omega), Option.bind_some, Int.toNat_natCast]
              rw [moveTo] at h
              exact h
        · simp only [if_neg (show ¬ (i : Int) = (j : Int) by omega), if_neg hij]
          refine Ev.bind (ev_refForget hn (.inr hl) hi) ?_
          refine Ev.bind (ev_refLimit hn (freeZ_fit (.inr hl) i) hi hj c) ?_
          simp only [w64 (x := -c) (by omega) (by omega)]
          exact Ev.bind (ev_refLimit hn (limZ_fit (freeZ_fit (.inr hl) i) i j c) hj hi (-c)) (Ev.const rfl)
/-! ### a variable's interval -/
def itvZ (n : Nat) (xs : List Int) (i : Nat) : Int × Int := if xs = [] then (1, 0) else (-(at_ n xs 0 i), at_ n xs i 0)
theorem zone_bounds {n : Nat} {xs : List Int} (hC : IsClosure n (cut n xs) (at_ n xs)) {i : Nat} (hi : i ≤ n) : -1099511627776 ≤ at_ n xs 0 i ∧ at_ n xs 0 i ≤ 1099511627776 ∧ -1099511627776 ≤ at_ n xs i 0 ∧ at_ n xs i 0 ≤ 1099511627776 ∧ 0 ≤ at_ n xs 0 i + at_ n xs i 0 := by
  have h1 := Int.le_trans (hC.2.1 0 i (Nat.zero_le _) hi) (cut_le n xs 0 i)
  have h2 := Int.le_trans (hC.2.1 i 0 hi (Nat.zero_le _)) (cut_le n xs i 0)
  have h3 := hC.1.1 0 0 i (Nat.zero_le _) (Nat.zero_le _) hi
  have h4 := hC.1.2 0 (Nat.zero_le _)
  have f1 : far 0 i ≤ 1099511627776 := by unfold far; split <;> (try split) <;> omega
  have f2 : far i 0 ≤ 1099511627776 := by unfold far; split <;> (try split) <;> (try split) <;> omega
  omega
theorem ev_Itv {n : Nat} {xs : List Int} (hz : isZone (n : Int) xs = true) {i : Nat} (hi : i ≤ n) : Ev (fun k => zone_Itv.f k (n : Int) xs (i : Int)) ((itvZ n xs i).1, (itvZ n xs i).2, 0) := by
  obtain ⟨hn, hx⟩ := zone_len hz
  unfold zone_Itv.f
  refine Ev.bind (ev_may _ _ _ _ _) ?_
  have e : (if isZone (n : Int) xs = true then may (n : Int) (i : Int) 0 0 else 80) = 0 := by
    rw [if_pos hz]; unfold may; rw [if_neg (by omega)]
  simp only [e, if_pos]
  rcases hx with hx | ⟨h0, hl, hC⟩
  · simp only [if_pos hx, itv_None.f, Option.bind_some, itvZ]
    exact Ev.const rfl
  · have ef : fitZ (n : Int) xs (i : Int) 0 = true := by
      unfold fitZ
      rw [Int.toNat_natCast]
      simp only [Bool.and_eq_true, decide_eq_true_eq, Bool.or_eq_true, List.isEmpty_iff]
      exact ⟨⟨⟨⟨⟨⟨by omega, by omega⟩, by omega⟩, by omega⟩, by omega⟩, by omega⟩, .inr hl⟩
    have hb := zone_bounds hC hi
    have e1 : rd xs ((i : Nat) : Int) = at_ n xs 0 i := by unfold at_; rw [Nat.zero_mul, Nat.zero_add]
    have e2 : rd xs ((i * (n + 1) : Nat) : Int) = at_ n xs i 0 := rfl
    simp only [if_neg h0, ef, if_pos, Int.toNat_natCast, e1, e2, val_Neg.f, val_Clip.f, Option.bind_some, itv_Of.f, mn_eq, mx_eq, itvZ]
    have e3 : min (max (at_ n xs 0 i) (-1099511627776)) 1099511627776 = at_ n xs 0 i := by omega
    rw [e3, w64 (x := -at_ n xs 0 i) (by omega) (by omega)]
    have e4 : max (-at_ n xs 0 i) (-1099511627776) = -at_ n xs 0 i := by omega
    have e5 : min (at_ n xs i 0) 1099511627776 = at_ n xs i 0 := by omega
    rw [e4, e5]
    simp only [if_neg (show ¬ -at_ n xs 0 i > at_ n xs i 0 by omega), Option.bind_some]
    exact Ev.const rfl
theorem refItv_f {n : Nat} (hn : n ≤ 8) {xs : List Int} (hx : xs = [] ∨ (¬ xs = [] ∧ xs.length = (n + 1) * (n + 1) ∧ IsClosure n (cut n xs) (at_ n xs))) {i : Nat} (hi : i ≤ n) : warrantorref09_Itv.f (n : Int) xs (i : Int) = some (itvZ n xs i) := by
  unfold warrantorref09_Itv.f
  rcases hx with hx | ⟨h0, hl, hC⟩
  · rw [if_pos (show (xs.length : Int) = 0 by rw [hx]; rfl)]
    simp only [warrantorref07_None.f, Option.bind_some, itvZ, if_pos hx]
  · have hlp := List.length_pos_iff.2 h0
    have hs := size_le hn
    have hb := zone_bounds hC hi
    have p1 := place_lt (Nat.zero_le n) hi
    have p2 := place_lt hi (Nat.zero_le n)
    have e1 : rd xs ((i : Nat) : Int) = at_ n xs 0 i := by unfold at_; rw [Nat.zero_mul, Nat.zero_add]
    have e2 : rd xs ((i * (n + 1) : Nat) : Int) = at_ n xs i 0 := rfl
    have e3 : wrap64 ((i : Int) * (wrap64 ((n : Int) + 1))) = ((i * (n + 1) : Nat) : Int) := by
      rw [succ_nat n (by omega), ← Int.natCast_mul, w64 (by omega) (by omega)]
    rw [if_neg (by omega), if_pos (by omega), if_pos (by omega), e3, if_pos (by omega), if_pos (by omega), e1, e2, w64 (by omega) (by omega)]
    unfold itvZ
    rw [if_neg h0]
theorem var_f (a : Int) (xs : List Int) (i : Int) : warrantorref09_Var.f a xs i = some (decide (1 ≤ i ∧ i ≤ a)) := by
  unfold warrantorref09_Var.f
  by_cases h : i ≥ 1
  · rw [if_pos h]; simp [show 1 ≤ i from h]
  · rw [if_neg h, decide_eq_false (fun h2 => h h2.1)]
theorem or0_f (a : Int) (xs : List Int) (i : Int) : warrantorref09_Or0.f a xs i = some (decide (0 ≤ i ∧ i ≤ a)) := by
  unfold warrantorref09_Or0.f
  by_cases h : i ≥ 0
  · rw [if_pos h]; simp [show 0 ≤ i from h]
  · rw [if_neg h, decide_eq_false (fun h2 => h h2.1)]
theorem fit_le {n : Nat} (hn : n ≤ 8) {zs : List Int} (h : zs = [] ∨ zs.length = (n + 1) * (n + 1)) : zs.length ≤ 200 := by
  have := size_le hn
  rcases h with h | h
  · rw [h]; simp
  · omega
theorem same_itv (x y : Int) : (!(x == x) || (!(y == y))) = false := by simp
end Go.Proofs.Ytgeemdpflcefkaa.DbmEv
