import Derived.Test.YtgeemdpflcefkaaYx3
import Derived.Test.YtgeemdpflcefkaaYx4
import Derived.Test.YtgeemdpflcefkaaYx18
import Derived.Test.YtgeemdpflcefkaaYx19
import Derived.Test.YtgeemdpflcefkaaYx33
import Derived.Test.YtgeemdpflcefkaaYx38
import Derived.Test.YtgeemdpflcefkaaYx39
import Derived.Test.YtgeemdpflcefkaaYx40
import Derived.Test.YtgeemdpflcefkaaYx41
import Derived.Test.YtgeemdpflcefkaaPostBase
set_option linter.unusedVariables false
set_option linter.unusedSimpArgs false
/- chapter 08 in this seat: what a zone has, and the zone of all -/
namespace Go.Proofs.Ytgeemdpflcefkaa.DbmEv
open Go.RowKit Go.Proofs.Ytgeemdpflcefkaa.Y Go.Proofs.YtgeemdpflcefkaaW.PrintWords Go.Proofs.YtgeemdpflcefkaaW.PrintLast Go.Proofs.Ytgeemdpflcefkaa.DbmMath
theorem ev_some (a : Int) (xs l : List Int) : Ev (fun k => dbm_some.f k a xs l) (isZone a xs && !decide (xs = []) && !l.any (oddVar a)) := by
  unfold dbm_some.f
  refine Ev.bind (ev_Check a xs) ?_
  cases hz : isZone a xs with
  | false => simp only [if_neg Bool.false_ne_true, if_neg (show ¬ (80 : Int) = 0 by decide)]; exact Ev.const (by simp)
  | true =>
    simp only [if_pos]
    refine Ev.const ?_
    cases xs with
    | nil => rfl
    | cons x t =>
      rw [if_pos (by simp only [List.length_cons]; omega)]
      simp [dbm_some_1.f]
theorem rd_take {w : List Int} {i j : Nat} (h : j < i) : rd (w.take i) (j : Int) = rd w (j : Int) := by
  rw [rd_nat, rd_nat, List.getD_eq_getElem?_getD, List.getD_eq_getElem?_getD, List.getElem?_take_of_lt h]
theorem ev_Has {n : Nat} (hn : n ≤ 8) {xs v : List Int} (hz : isZone (n : Int) xs = true) (hx : ¬ xs = []) (hxl : xs.length = (n + 1) * (n + 1)) (hv : v.length = n) : Ev (fun k => dbm_Has.f k (n : Int) xs v) (hasB n xs v) := by
  unfold dbm_Has.f
  have hs := size_le hn
  refine Ev.bind (ev_some (n : Int) xs []) ?_
  simp only [hz, hx, decide_false, List.any_nil, Bool.not_false, Bool.and_true, if_pos, hv, bne_self_eq_false]
  refine Ev.succ (fun k => by rw [dbm_Has.j0]) ?_
  have e2 : slices_Clone_int_int.f v = some v := by unfold slices_Clone_int_int.f; simp; omega
  have e3 : slices_Insert_int_int.f v 0 [0] = some (0 :: v) := by
    unfold slices_Insert_int_int.f
    rw [if_pos ⟨rfl, rfl, by omega⟩]; rfl
  simp only [if_neg Bool.false_ne_true, e2, e3, Option.bind_some]
  have hl : ((0 :: v).length : Int) = ((n + 1 : Nat) : Int) := by rw [List.length_cons, hv]
  rw [hl]
  have hw : ∀ i, rd (0 :: v) (i : Nat) = wv v i := fun i => rfl
  have go1 : ∀ i j s, i ≤ n → j < i → (∀ j, j < i → inR (wv v j) = true) → inR (wv v i) = true → decide (wv v i - wv v j ≤ at_ n xs i j ∧ wv v j - wv v i ≤ at_ n xs j i) = true →
      Ev (fun k => dbm_Has.l1 k (0 :: v) (i : Int) (wv v i) (0 :: v) ((n + 1 : Nat) : Int) (i : Int) ((0 :: v).take i) (i : Int) ((j + 1 : Nat) : Int) (n : Int) xs (n : Int) xs) s → Ev (fun k => dbm_Has.l1 k (0 :: v) (i : Int) (wv v i) (0 :: v) ((n + 1 : Nat) : Int) (i : Int) ((0 :: v).take i) (i : Int) (j : Int) (n : Int) xs (n : Int) xs) s := by
    intro i j s hi hj hR hRi hp h
    have b1 := inR_iff.1 hRi
    have b2 := inR_iff.1 (hR j hj)
    have p1 := place_lt hi (show j ≤ n by omega)
    have p2 := place_lt (show j ≤ n by omega) hi
    have := of_decide_eq_true hp
    unfold at_ at this
    have ht : ((0 :: v).take i).length = i := by rw [List.length_take, List.length_cons]; omega
    refine Ev.succ (fun k => by rw [dbm_Has.l1]) ?_
    simp only [if_pos (show (j : Int) < (i : Int) by omega), if_pos (show (0 : Int) ≤ (j : Int) by omega), ht, grid_at n hn xs i j hi (by omega), grid_at n hn xs j i (by omega) hi, Option.bind_some, if_pos (show (0 : Int) ≤ ((i * (n + 1) + j : Nat) : Int) by omega), if_pos (show ((i * (n + 1) + j : Nat) : Int) < (xs.length : Int) by omega), if_pos (show (0 : Int) ≤ ((j * (n + 1) + i : Nat) : Int) by omega), if_pos (show ((j * (n + 1) + i : Nat) : Int) < (xs.length : Int) by omega), rd_take hj, hw, w64 (x := wv v i - wv v j) (by omega) (by omega), w64 (x := wv v j - wv v i) (by omega) (by omega), if_neg (show ¬ wv v i - wv v j > rd xs ((i * (n + 1) + j : Nat) : Int) by omega), if_neg (show ¬ wv v j - wv v i > rd xs ((j * (n + 1) + i : Nat) : Int) by omega), succ_nat j (by omega)]
    exact h
  have no1 : ∀ i j, i ≤ n → j < i → (∀ j, j < i → inR (wv v j) = true) → inR (wv v i) = true → decide (wv v i - wv v j ≤ at_ n xs i j ∧ wv v j - wv v i ≤ at_ n xs j i) = false →
      Ev (fun k => dbm_Has.l1 k (0 :: v) (i : Int) (wv v i) (0 :: v) ((n + 1 : Nat) : Int) (i : Int) ((0 :: v).take i) (i : Int) (j : Int) (n : Int) xs (n : Int) xs) false := by
    intro i j hi hj hR hRi hp
    have b1 := inR_iff.1 hRi
    have b2 := inR_iff.1 (hR j hj)
    have p1 := place_lt hi (show j ≤ n by omega)
    have p2 := place_lt (show j ≤ n by omega) hi
    have := of_decide_eq_false hp
    unfold at_ at this
    have ht : ((0 :: v).take i).length = i := by rw [List.length_take, List.length_cons]; omega
    refine Ev.succ (fun k => by rw [dbm_Has.l1]) ?_
    simp only [if_pos (show (j : Int) < (i : Int) by omega), if_pos (show (0 : Int) ≤ (j : Int) by omega), ht, grid_at n hn xs i j hi (by omega), grid_at n hn xs j i (by omega) hi, Option.bind_some, if_pos (show (0 : Int) ≤ ((i * (n + 1) + j : Nat) : Int) by omega), if_pos (show ((i * (n + 1) + j : Nat) : Int) < (xs.length : Int) by omega), if_pos (show (0 : Int) ≤ ((j * (n + 1) + i : Nat) : Int) by omega), if_pos (show ((j * (n + 1) + i : Nat) : Int) < (xs.length : Int) by omega), rd_take hj, hw, w64 (x := wv v i - wv v j) (by omega) (by omega), w64 (x := wv v j - wv v i) (by omega) (by omega)]
    by_cases h1 : wv v i - wv v j > rd xs ((i * (n + 1) + j : Nat) : Int)
    · simp only [if_pos h1]; exact Ev.const rfl
    · simp only [if_neg h1, if_pos (show wv v j - wv v i > rd xs ((j * (n + 1) + i : Nat) : Int) by omega)]; exact Ev.const rfl
  have stp : ∀ i, i ≤ n → inR (wv v i) = true → ∀ s, Ev (fun k => dbm_Has.l1 k (0 :: v) (i : Int) (wv v i) (0 :: v) ((n + 1 : Nat) : Int) (i : Int) ((0 :: v).take i) (i : Int) 0 (n : Int) xs (n : Int) xs) s → Ev (fun k => dbm_Has.l0 k (0 :: v) (0 :: v) ((n + 1 : Nat) : Int) (i : Int) (n : Int) xs (n : Int) xs) s := by
    intro i hi hR s h
    have b := inR_iff.1 hR
    refine Ev.succ (fun k => by rw [dbm_Has.l0]) ?_
    simp only [if_pos (show (i : Int) < ((n + 1 : Nat) : Int) by omega), if_pos (show (0 : Int) ≤ (i : Int) by omega), hl, hw, if_neg (show ¬ wv v i > 1099511627776 by omega), decide_eq_false (show ¬ wv v i < -1099511627776 by omega)]
    refine Ev.succ (fun k => by rw [dbm_Has.j2]) ?_
    have ht : ((0 :: v).take i).length = i := by rw [List.length_take, List.length_cons]; omega
    simp only [if_neg Bool.false_ne_true, if_pos (show (0 : Int) ≤ (i : Int) by omega), hl, if_pos (show (i : Int) ≤ ((n + 1 : Nat) : Int) by omega), Option.bind_some, Int.toNat_natCast, ht]
    exact h
  refine Ev.loop0 (l := fun k i => dbm_Has.l0 k (0 :: v) (0 :: v) ((n + 1 : Nat) : Int) (i : Int) (n : Int) xs (n : Int) xs) (N := n + 1) ?_ ?_ ?_
  · intro _
    refine Ev.succ (fun k => by rw [dbm_Has.l0]) ?_
    simp only [if_neg (Int.lt_irrefl _)]
    exact Ev.const rfl
  · intro i s hi hj hp h
    rw [Bool.and_eq_true] at hp
    have hR : ∀ j, j < i → inR (wv v j) = true := fun j hji => by
      have := hj j hji
      rw [Bool.and_eq_true] at this; exact this.1
    refine stp i (by omega) hp.1 s ?_
    have := Ev.loop0 (l := fun k j => dbm_Has.l1 k (0 :: v) (i : Int) (wv v i) (0 :: v) ((n + 1 : Nat) : Int) (i : Int) ((0 :: v).take i) (i : Int) (j : Int) (n : Int) xs (n : Int) xs) (N := i) (P := fun j => decide (wv v i - wv v j ≤ at_ n xs i j ∧ wv v j - wv v i ≤ at_ n xs j i)) (rest := s) (fun _ => by
      refine Ev.succ (fun k => by rw [dbm_Has.l1]) ?_
      simp only [if_neg (Int.lt_irrefl _), succ_nat i (by omega)]
      exact h) (fun j s' hji _ hp' h' => go1 i j s' (by omega) hji hR hp.1 hp' h') (fun j hji _ hp' => no1 i j (by omega) hji hR hp.1 hp')
    rw [hp.2, Bool.true_and] at this
    exact this
  · intro i hi hj hp
    have hR : ∀ j, j < i → inR (wv v j) = true := fun j hji => by
      have := hj j hji
      rw [Bool.and_eq_true] at this; exact this.1
    cases hRi : inR (wv v i) with
    | true =>
      rw [hRi, Bool.true_and] at hp
      refine stp i (by omega) hRi false ?_
      exact Ev.loopNo (l := fun k j => dbm_Has.l1 k (0 :: v) (i : Int) (wv v i) (0 :: v) ((n + 1 : Nat) : Int) (i : Int) ((0 :: v).take i) (i : Int) (j : Int) (n : Int) xs (n : Int) xs) (N := i) (fun j s' hji _ hp' h' => go1 i j s' (by omega) hji hR hRi hp' h') (fun j hji _ hp' => no1 i j (by omega) hji hR hRi hp') i 0 (by omega) (fun j h => absurd h (by omega)) hp
    | false =>
      have hb : ¬ (-1099511627776 ≤ wv v i ∧ wv v i ≤ 1099511627776) := fun h => by rw [inR_iff.2 h] at hRi; cases hRi
      refine Ev.succ (fun k => by rw [dbm_Has.l0]) ?_
      simp only [if_pos (show (i : Int) < ((n + 1 : Nat) : Int) by omega), if_pos (show (0 : Int) ≤ (i : Int) by omega), hl, hw]
      by_cases h1 : wv v i > 1099511627776
      · simp only [if_pos h1]
        refine Ev.succ (fun k => by rw [dbm_Has.j2]) ?_
        simp only [if_pos]
        exact Ev.const rfl
      · simp only [if_neg h1, decide_eq_true (show wv v i < -1099511627776 by omega)]
        refine Ev.succ (fun k => by rw [dbm_Has.j2]) ?_
        simp only [if_pos]
        exact Ev.const rfl
/-- Nothing is had by an empty zone. -/
theorem ev_Has_none (a : Int) (v : List Int) : Ev (fun k => dbm_Has.f k a [] v) false := by
  unfold dbm_Has.f
  refine Ev.bind (ev_some a [] []) ?_
  simp only [decide_true, Bool.not_true, Bool.and_false, Bool.false_and, if_neg Bool.false_ne_true]
  refine Ev.succ (fun k => by rw [dbm_Has.j0]) ?_
  simp only [if_pos]
  exact Ev.const rfl
end Go.Proofs.Ytgeemdpflcefkaa.DbmEv
/- chapter 09: which valuations the made zones have -/
namespace Go.Proofs.Ytgeemdpflcefkaa.DbmEv
open Go.RowKit Go.Proofs.Ytgeemdpflcefkaa.Y Go.Proofs.YtgeemdpflcefkaaW.PrintWords Go.Proofs.YtgeemdpflcefkaaW.PrintLast Go.Proofs.Ytgeemdpflcefkaa.DbmMath
def hasP (n : Nat) (xs v : List Int) : Prop := ¬ xs = [] ∧ Val n (at_ n xs) v
def hasZ (n : Nat) (xs v : List Int) : Bool := !decide (xs = []) && hasB n xs v
theorem hasZ_iff {n : Nat} {xs v : List Int} (hz : isZone (n : Int) xs = true) : hasZ n xs v = true ↔ hasP n xs v := by
  unfold hasZ hasP
  rw [Bool.and_eq_true, Bool.not_eq_true', decide_eq_false_iff_not]
  rcases (zone_len hz).2 with hx | ⟨h0, _, hC⟩
  · simp [hx]
  · rw [hasB_iff hC.1.2]
theorem ev_hasZ {n : Nat} {xs v : List Int} (hz : isZone (n : Int) xs = true) (hv : v.length = n) : Ev (fun k => dbm_Has.f k (n : Int) xs v) (hasZ n xs v) := by
  obtain ⟨hn, hx⟩ := zone_len hz
  unfold hasZ
  rcases hx with hx | ⟨h0, hl, _⟩
  · subst hx
    simpa using ev_Has_none (n : Int) v
  · have := ev_Has hn hz h0 hl hv
    simpa [h0] using this
theorem ev_hasZ_len {n : Nat} {xs v : List Int} (hz : isZone (n : Int) xs = true) (hv : ¬ v.length = n) : Ev (fun k => dbm_Has.f k (n : Int) xs v) false := by
  unfold dbm_Has.f
  refine Ev.bind (ev_some (n : Int) xs []) ?_
  have e : ((v.length : Int) != (n : Int)) = true := by rw [bne_iff_ne]; omega
  have no : Ev (fun k => dbm_Has.j0 k v true (n : Int) xs) false := by
    refine Ev.succ (fun k => by rw [dbm_Has.j0]) ?_
    simp only [if_pos]
    exact Ev.const rfl
  simp only [e]
  split
  · exact no
  · exact no
theorem closeT_zone {n : Nat} (hn : n ≤ 8) {zs : List Int} (hl : zs.length = (n + 1) * (n + 1)) : isZone (n : Int) (closeT n zs) = true := by
  rcases closeT_cases hl with ⟨a, _⟩ | ⟨a, _, hD⟩
  · rw [a]; exact isZone_nil hn
  · exact (closure_zone hn a (cut_le n zs) hD).2.2
theorem hasP_close {n : Nat} {zs v : List Int} (hl : zs.length = (n + 1) * (n + 1)) : hasP n (closeT n zs) v ↔ Val n (at_ n zs) v := by
  unfold hasP
  rcases closeT_cases hl with ⟨a, hD⟩ | ⟨a, a0, hD⟩
  · rw [a]
    exact ⟨fun h => absurd rfl h.1, fun h => absurd h (dead_val hD)⟩
  · rw [val_closure hD]
    exact ⟨fun h => h.2, fun h => ⟨a0, h⟩⟩
theorem limZ_zone {n : Nat} (hn : n ≤ 8) {xs : List Int} (h : xs = [] ∨ xs.length = (n + 1) * (n + 1)) (i j : Nat) (c : Int) : isZone (n : Int) (limZ n xs i j c) = true := by
  unfold limZ
  split
  · exact isZone_nil hn
  · next h0 => exact closeT_zone hn (by rw [limitL_len]; exact h.resolve_left h0)
theorem freeZ_zone {n : Nat} (hn : n ≤ 8) {xs : List Int} (h : xs = [] ∨ xs.length = (n + 1) * (n + 1)) (i : Nat) : isZone (n : Int) (freeZ n xs i) = true := by
  unfold freeZ
  split
  · exact isZone_nil hn
  · next h0 => exact closeT_zone hn (by rw [free_len]; exact h.resolve_left h0)
theorem letZ_zone {n : Nat} (hn : n ≤ 8) {xs : List Int} (h : xs = [] ∨ xs.length = (n + 1) * (n + 1)) (i j : Nat) (c : Int) : isZone (n : Int) (letZ n xs i j c) = true := by
  unfold letZ
  split
  · exact isZone_nil hn
  · split
    · split
      · exact isZone_nil hn
      · next h0 => exact closeT_zone hn (by rw [move_len]; exact h.resolve_left h0)
    · exact limZ_zone hn (limZ_fit (freeZ_fit h i) i j c) j i _
theorem hasP_lim {n : Nat} {xs v : List Int} (h : xs = [] ∨ xs.length = (n + 1) * (n + 1)) {i j : Nat} (hi : i ≤ n) (hj : j ≤ n) (c : Int) : hasP n (limZ n xs i j c) v ↔ hasP n xs v ∧ wv v i - wv v j ≤ c := by
  unfold limZ
  by_cases h0 : xs = []
  · rw [if_pos h0]
    exact ⟨fun h => absurd rfl h.1, fun h => absurd h0 h.1.1⟩
  · have hl := h.resolve_left h0
    rw [if_neg h0, hasP_close (by rw [limitL_len]; exact hl)]
    constructor
    · intro hv
      refine ⟨⟨h0, hv.1, fun a b ha hb => ?_⟩, ?_⟩
      · exact Int.le_trans (hv.2 a b ha hb) (limit_le hl hi hj c a b ha hb)
      · have := hv.2 i j hi hj
        rw [at_limit hl hi hj c hi hj, if_pos ⟨rfl, rfl⟩] at this
        omega
    · rintro ⟨⟨_, hv⟩, hc⟩
      refine ⟨hv.1, fun a b ha hb => ?_⟩
      rw [at_limit hl hi hj c ha hb]
      split
      · next h1 =>
        obtain ⟨rfl, rfl⟩ := h1
        have := hv.2 a b ha hb
        omega
      · exact hv.2 a b ha hb
def withV (v : List Int) (i : Nat) (x : Int) : List Int := v.set (i - 1) x
theorem withV_len (v : List Int) (i : Nat) (x : Int) : (withV v i x).length = v.length := by unfold withV; rw [List.length_set]
theorem wv_with {n : Nat} {v : List Int} (hv : v.length = n) {i : Nat} (h1 : 1 ≤ i) (hi : i ≤ n) (x : Int) (a : Nat) : wv (withV v i x) a = if a = i then x else wv v a := by
  cases a with
  | zero => rw [if_neg (by omega)]; rfl
  | succ a =>
    rw [wv_succ, wv_succ, rd_nat, rd_nat, List.getD_eq_getElem?_getD, List.getD_eq_getElem?_getD]
    unfold withV
    by_cases h : a + 1 = i
    · rw [if_pos h, show i - 1 = a by omega, List.getElem?_set_self (by omega)]; rfl
    · rw [if_neg h, List.getElem?_set_ne (by omega)]
theorem val_far {n : Nat} {v : List Int} (h : ∀ i, i ≤ n → -1099511627776 ≤ wv v i ∧ wv v i ≤ 1099511627776) {i j : Nat} (hi : i ≤ n) (hj : j ≤ n) : wv v i - wv v j ≤ 2199023255552 := by
  have := h i hi
  have := h j hj
  omega
theorem val_free {n : Nat} {xs v : List Int} (hl : xs.length = (n + 1) * (n + 1)) {i : Nat} (hi : i ≤ n) : Val n (at_ n (freeTo i n xs (n + 1))) v ↔ (∀ a, a ≤ n → -1099511627776 ≤ wv v a ∧ wv v a ≤ 1099511627776) ∧ ∀ a b, a ≤ n → b ≤ n → ¬ a = i → ¬ b = i → wv v a - wv v b ≤ at_ n xs a b := by
  constructor
  · rintro ⟨h1, h2⟩
    refine ⟨h1, fun a b ha hb hai hbi => ?_⟩
    have := h2 a b ha hb
    rw [at_freeAll hl hi ha hb, if_neg (by omega)] at this
    exact this
  · rintro ⟨h1, h2⟩
    refine ⟨h1, fun a b ha hb => ?_⟩
    rw [at_freeAll hl hi ha hb]
    split
    · have := val_far h1 ha hb; omega
    · next h => exact h2 a b ha hb (by omega) (by omega)
theorem hasP_free {n : Nat} {xs v : List Int} (h : xs = [] ∨ xs.length = (n + 1) * (n + 1)) {i : Nat} (hi : i ≤ n) : hasP n (freeZ n xs i) v ↔ ¬ xs = [] ∧ (∀ a, a ≤ n → -1099511627776 ≤ wv v a ∧ wv v a ≤ 1099511627776) ∧ ∀ a b, a ≤ n → b ≤ n → ¬ a = i → ¬ b = i → wv v a - wv v b ≤ at_ n xs a b := by
  unfold freeZ
  by_cases h0 : xs = []
  · rw [if_pos h0]
    exact ⟨fun h => absurd rfl h.1, fun h => absurd h0 h.1⟩
  · have hl := h.resolve_left h0
    rw [if_neg h0, hasP_close (by rw [free_len]; exact hl), val_free hl hi]
    exact ⟨fun h => ⟨h0, h⟩, fun h => h.2⟩
theorem at_move {n : Nat} {xs : List Int} (hl : xs.length = (n + 1) * (n + 1)) {i : Nat} (hi : i ≤ n) (c : Int) (hc : -2199023255552 ≤ c ∧ c ≤ 2199023255552) (hd : at_ n xs i i = 0)
    (hr : ∀ a b, a ≤ n → b ≤ n → -2199023255553 ≤ at_ n xs a b ∧ at_ n xs a b ≤ 2199023255553) :
    ∀ k, k ≤ n + 1 → ∀ a b, a ≤ n → b ≤ n → at_ n (moveTo i n c xs k) a b = if a = i ∧ ¬ b = i ∧ b < k then at_ n xs a b + c else if b = i ∧ ¬ a = i ∧ a < k then at_ n xs a b - c else at_ n xs a b
  | 0, _, a, b, _, _ => by rw [if_neg (by omega), if_neg (by omega)]; rfl
  | k + 1, hk, a, b, ha, hb => by
    by_cases hki : k = i
    · subst hki
      rw [move_skip hl hi c hc hd, at_move hl hi c hc hd hr k (by omega) a b ha hb]
      by_cases h1 : a = k ∧ ¬ b = k ∧ b < k
      · rw [if_pos h1, if_pos (by omega)]
      · rw [if_neg h1, if_neg (show ¬ (a = k ∧ ¬ b = k ∧ b < k + 1) by omega)]
        by_cases h2 : b = k ∧ ¬ a = k ∧ a < k
        · rw [if_pos h2, if_pos (by omega)]
        · rw [if_neg h2, if_neg (by omega)]
    · have hl1 : (moveTo i n c xs k).length = (n + 1) * (n + 1) := by rw [move_len]; exact hl
      have ih := at_move hl hi c hc hd hr k (by omega)
      have r1 := hr i k hi (by omega)
      have r2 := hr k i (by omega) hi
      have e1 : rd (moveTo i n c xs k) ((i * (n + 1) + k : Nat) : Int) = at_ n xs i k := by
        have := ih i k hi (by omega)
        rw [if_neg (by omega), if_neg (by omega)] at this
        exact this
      have e2 : rd ((moveTo i n c xs k).set (i * (n + 1) + k) (at_ n xs i k + c)) ((k * (n + 1) + i : Nat) : Int) = at_ n xs k i := by
        have h3 := at_set (n := n) hl1 hi (show k ≤ n by omega) (show k ≤ n by omega) hi (at_ n xs i k + c)
        rw [if_neg (by omega), ih k i (by omega) hi, if_neg (by omega), if_neg (by omega)] at h3
        exact h3
      unfold moveTo
      rw [e1, w64 (x := at_ n xs i k + c) (by omega) (by omega), e2, w64 (x := at_ n xs k i - c) (by omega) (by omega)]
      rw [at_set (by rw [List.length_set]; exact hl1) (by omega) hi ha hb, at_set hl1 hi (by omega) ha hb, ih a b ha hb]
      by_cases h1 : a = k ∧ b = i
      · obtain ⟨rfl, rfl⟩ := h1
        rw [if_pos ⟨rfl, rfl⟩, if_neg (by omega), if_pos (by omega)]
      · rw [if_neg h1]
        by_cases h2 : a = i ∧ b = k
        · obtain ⟨rfl, rfl⟩ := h2
          rw [if_pos ⟨rfl, rfl⟩, if_pos (by omega)]
        · rw [if_neg h2]
          by_cases h3 : a = i ∧ ¬ b = i ∧ b < k
          · rw [if_pos h3, if_pos (by omega)]
          · rw [if_neg h3, if_neg (show ¬ (a = i ∧ ¬ b = i ∧ b < k + 1) by omega)]
            by_cases h4 : b = i ∧ ¬ a = i ∧ a < k
            · rw [if_pos h4, if_pos (by omega)]
            · rw [if_neg h4, if_neg (by omega)]
theorem closed_range {n : Nat} {xs : List Int} (hC : IsClosure n (cut n xs) (at_ n xs)) {a b : Nat} (ha : a ≤ n) (hb : b ≤ n) : -2199023255552 ≤ at_ n xs a b ∧ at_ n xs a b ≤ 2199023255552 := by
  have h1 := hC.1.above hC.2.1 (cut_le n xs) ha hb
  have h2 := Int.le_trans (hC.2.1 a b ha hb) (cut_le n xs a b)
  have h3 := far_le a b
  omega
theorem val_move {n : Nat} {xs v : List Int} (hl : xs.length = (n + 1) * (n + 1)) (hC : IsClosure n (cut n xs) (at_ n xs)) (hv : v.length = n) {i : Nat} (h1 : 1 ≤ i) (hi : i ≤ n) (c : Int) (hc : -2199023255552 ≤ c ∧ c ≤ 2199023255552) :
    Val n (at_ n (moveTo i n c xs (n + 1))) v ↔ (-1099511627776 ≤ wv v i ∧ wv v i ≤ 1099511627776) ∧ Val n (at_ n xs) (withV v i (wv v i - c)) := by
  have hd : at_ n xs i i = 0 := hC.1.diag hC.2.1 (cut_le n xs) hi
  have hm := at_move hl hi c hc hd (fun a b ha hb => by have := closed_range hC ha hb; omega) (n + 1) (Nat.le_refl _)
  have hw := wv_with hv h1 hi (wv v i - c)
  have hb := zone_bounds hC hi
  constructor
  · rintro ⟨h2, h3⟩
    refine ⟨h2 i hi, fun a ha => ?_, fun a b ha hb => ?_⟩
    · rw [hw]
      split
      · next h =>
        have u1 := h3 i 0 hi (Nat.zero_le _)
        have u2 := h3 0 i (Nat.zero_le _) hi
        rw [hm i 0 hi (Nat.zero_le _), if_pos (by omega), wv_zero] at u1
        rw [hm 0 i (Nat.zero_le _) hi, if_neg (by omega), if_pos (by omega), wv_zero] at u2
        omega
      · exact h2 a ha
    · have u := h3 a b ha hb
      rw [hm a b ha hb] at u
      rw [hw, hw]
      by_cases ha1 : a = i <;> by_cases hb1 : b = i
      · rw [if_pos ha1, if_pos hb1, ha1, hb1, hd]; omega
      · rw [if_pos (by omega)] at u
        rw [if_pos ha1, if_neg hb1]
        rw [ha1] at u ⊢
        omega
      · rw [if_neg (by omega), if_pos (by omega)] at u
        rw [if_neg ha1, if_pos hb1]
        rw [hb1] at u ⊢
        omega
      · rw [if_neg (by omega), if_neg (by omega)] at u
        rw [if_neg ha1, if_neg hb1]
        exact u
  · rintro ⟨hr, h2, h3⟩
    refine ⟨fun a ha => ?_, fun a b ha hb => ?_⟩
    · by_cases h : a = i
      · rw [h]; exact hr
      · have := h2 a ha
        rw [hw, if_neg h] at this
        exact this
    · have u := h3 a b ha hb
      rw [hw, hw] at u
      rw [hm a b ha hb]
      by_cases ha1 : a = i <;> by_cases hb1 : b = i
      · rw [if_neg (by omega), if_neg (by omega), ha1, hb1, hd]; omega
      · rw [if_pos ha1, if_neg hb1] at u
        rw [if_pos (by omega)]
        rw [ha1] at u ⊢
        omega
      · rw [if_neg ha1, if_pos hb1] at u
        rw [if_neg (by omega), if_pos (by omega)]
        rw [hb1] at u ⊢
        omega
      · rw [if_neg ha1, if_neg hb1] at u
        rw [if_neg (by omega), if_neg (by omega)]
        exact u
theorem hasP_let_same {n : Nat} {xs v : List Int} (hz : isZone (n : Int) xs = true) (hv : v.length = n) {i : Nat} (h1 : 1 ≤ i) (hi : i ≤ n) (c : Int) (hc : -2199023255552 ≤ c ∧ c ≤ 2199023255552) :
    hasP n (letZ n xs i i c) v ↔ (-1099511627776 ≤ wv v i ∧ wv v i ≤ 1099511627776) ∧ hasP n xs (withV v i (wv v i - c)) := by
  obtain ⟨hn, hx⟩ := zone_len hz
  unfold letZ
  rw [if_neg (by omega), if_pos rfl]
  rcases hx with hx | ⟨h0, hl, hC⟩
  · rw [if_pos hx]
    exact ⟨fun h => absurd rfl h.1, fun h => absurd hx h.2.1⟩
  · rw [if_neg h0, hasP_close (by rw [move_len]; exact hl), val_move hl hC hv h1 hi c hc]
    exact ⟨fun h => ⟨h.1, h0, h.2⟩, fun h => ⟨h.1, h.2.2⟩⟩
theorem hasP_let {n : Nat} {xs v : List Int} (hz : isZone (n : Int) xs = true) {i j : Nat} (hi : i ≤ n) (hj : j ≤ n) (hij : ¬ i = j) (c : Int) (hc : -2199023255552 ≤ c ∧ c ≤ 2199023255552) :
    hasP n (letZ n xs i j c) v ↔ hasP n (freeZ n xs i) v ∧ wv v i = wv v j + c := by
  have hx := (zone_fit hz).2
  unfold letZ
  rw [if_neg (by omega), if_neg hij, hasP_lim (limZ_fit (freeZ_fit hx i) i j c) hj hi, hasP_lim (freeZ_fit hx i) hi hj]
  constructor
  · rintro ⟨⟨h1, h2⟩, h3⟩; exact ⟨h1, by omega⟩
  · rintro ⟨h1, h2⟩; exact ⟨⟨h1, by omega⟩, by omega⟩
end Go.Proofs.Ytgeemdpflcefkaa.DbmEv
