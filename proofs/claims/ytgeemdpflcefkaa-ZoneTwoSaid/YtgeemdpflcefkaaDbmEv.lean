/- chapter 08: what the program's own closing of a matrix tells (pure words of the walk against the plain law) -/
import Derived.Test.YtgeemdpflcefkaaZx4
import Derived.Test.YtgeemdpflcefkaaZx5
import Derived.Test.YtgeemdpflcefkaaZx6
import Derived.Test.YtgeemdpflcefkaaZx7
import Derived.Test.YtgeemdpflcefkaaDbmMath
set_option linter.unusedVariables false
set_option linter.unusedSimpArgs false
namespace Go.Proofs.Ytgeemdpflcefkaa.DbmEv
open Go.RowKit Go.Proofs.Ytgeemdpflcefkaa.Z Go.Proofs.YtgeemdpflcefkaaW.PrintWords Go.Proofs.YtgeemdpflcefkaaW.PrintLast Go.Proofs.Ytgeemdpflcefkaa.DbmMath

/-! ### enough rounds -/
def Ev {α : Type} (g : Nat → Option α) (r : α) : Prop := ∃ k0, ∀ k, k0 ≤ k → g k = some r
theorem Ev.const {α} {a : Option α} {r : α} (h : a = some r) : Ev (fun _ => a) r := ⟨0, fun _ _ => h⟩
theorem Ev.bind {α β} {g : Nat → Option α} {h : Nat → α → Option β} {a : α} {r : β} (hg : Ev g a) (hh : Ev (fun k => h k a) r) : Ev (fun k => (g k).bind (h k)) r := by
  obtain ⟨k1, h1⟩ := hg
  obtain ⟨k2, h2⟩ := hh
  refine ⟨max k1 k2, fun k hk => ?_⟩
  simp only [h1 k (by omega), Option.bind_some]
  exact h2 k (by omega)
theorem Ev.succ {α} {g b : Nat → Option α} {r : α} (h : ∀ k, g (k + 1) = b k) (hb : Ev b r) : Ev g r := by
  obtain ⟨k0, h0⟩ := hb
  refine ⟨k0 + 1, fun k hk => ?_⟩
  obtain ⟨j, rfl⟩ : ∃ j, k = j + 1 := ⟨k - 1, by omega⟩
  rw [h]
  exact h0 j (by omega)
theorem Ev.get {α} {g : Nat → Option α} {r : α} (h : Ev g r) : ∃ k, g k = some r := by
  obtain ⟨k0, h0⟩ := h
  exact ⟨k0, h0 k0 (Nat.le_refl _)⟩
theorem Ev.unique {α} {g : Nat → Option α} {r s : α} (h : Ev g r) (h' : Ev g s) : r = s := by
  obtain ⟨k1, h1⟩ := h
  obtain ⟨k2, h2⟩ := h'
  have := (h1 (max k1 k2) (by omega)).symm.trans (h2 (max k1 k2) (by omega))
  exact Option.some.inj this
theorem w64 {x : Int} (h : -9223372036854775808 ≤ x) (h' : x ≤ 9223372036854775807) : wrap64 x = x := by unfold wrap64; omega

/-! ### matrices as lists -/
def at_ (n : Nat) (xs : List Int) (i j : Nat) : Int := rd xs ((i * (n + 1) + j : Nat) : Int)
theorem rd_nat (xs : List Int) (p : Nat) : rd xs (p : Int) = xs.getD p 0 := rfl
theorem rd_at (n : Nat) (xs : List Int) (i j : Nat) : rd xs ((i : Int) * ((n : Int) + 1) + (j : Int)) = at_ n xs i j := by
  unfold at_
  have : ((i : Int) * ((n : Int) + 1) + (j : Int)) = ((i * (n + 1) + j : Nat) : Int) := by simp only [Int.natCast_add, Int.natCast_mul, Int.natCast_one]
  rw [this]
theorem place_inj {n i j i' j' : Nat} (hj : j ≤ n) (hj' : j' ≤ n) (h : i * (n + 1) + j = i' * (n + 1) + j') : i = i' ∧ j = j' := by
  have h1 : (i * (n + 1) + j) / (n + 1) = i := by
    rw [Nat.add_comm, Nat.mul_comm, Nat.add_mul_div_left _ _ (Nat.succ_pos n), Nat.div_eq_of_lt (by omega), Nat.zero_add]
  have h2 : (i' * (n + 1) + j') / (n + 1) = i' := by
    rw [Nat.add_comm, Nat.mul_comm, Nat.add_mul_div_left _ _ (Nat.succ_pos n), Nat.div_eq_of_lt (by omega), Nat.zero_add]
  have : i = i' := by rw [← h1, ← h2, h]
  subst this
  exact ⟨rfl, by omega⟩
theorem place_split (n p : Nat) (hp : p < (n + 1) * (n + 1)) : ∃ i j, i ≤ n ∧ j ≤ n ∧ p = i * (n + 1) + j := by
  refine ⟨p / (n + 1), p % (n + 1), ?_, ?_, ?_⟩
  · exact Nat.lt_succ_iff.1 ((Nat.div_lt_iff_lt_mul (Nat.succ_pos n)).2 hp)
  · exact Nat.lt_succ_iff.1 (Nat.mod_lt p (Nat.succ_pos n))
  · have := Nat.div_add_mod p (n + 1)
    rw [Nat.mul_comm]; exact this.symm
theorem at_set {n : Nat} {xs : List Int} {i j i' j' : Nat} (hl : xs.length = (n + 1) * (n + 1)) (hi : i ≤ n) (hj : j ≤ n) (hi' : i' ≤ n) (hj' : j' ≤ n) (v : Int) :
    at_ n (xs.set (i * (n + 1) + j) v) i' j' = if i' = i ∧ j' = j then v else at_ n xs i' j' := by
  unfold at_
  simp only [rd_nat, List.getD_eq_getElem?_getD]
  have hlt := place_lt hi hj
  by_cases h : i' = i ∧ j' = j
  · obtain ⟨rfl, rfl⟩ := h
    rw [List.getElem?_set_self (by omega)]
    simp
  · rw [if_neg h, List.getElem?_set_ne]
    intro he
    have := place_inj hj hj' he
    exact h ⟨this.1.symm, this.2.symm⟩
theorem list_eq {n : Nat} {xs ys : List Int} (hx : xs.length = (n + 1) * (n + 1)) (hy : ys.length = (n + 1) * (n + 1)) (h : ∀ i j, i ≤ n → j ≤ n → at_ n xs i j = at_ n ys i j) : xs = ys := by
  apply List.ext_getElem (by omega)
  intro p h1 h2
  obtain ⟨i, j, hi, hj, rfl⟩ := place_split n p (by omega)
  have := h i j hi hj
  unfold at_ at this
  simp only [rd_nat, List.getD_eq_getElem?_getD, List.getElem?_eq_getElem h1, List.getElem?_eq_getElem h2, Option.getD_some] at this
  exact this

/-! ### one after the other -/
theorem eachTo_spec {F : List Int → Int → Int → Int} {n : Nat} {xs : List Int} {G : Mat} (hl : xs.length = (n + 1) * (n + 1))
    (hF : ∀ (ys : List Int) (i j : Nat), ys.length = (n + 1) * (n + 1) → i ≤ n → j ≤ n → (∀ a b, a ≤ n → b ≤ n → at_ n ys a b = if a * (n + 1) + b < i * (n + 1) + j then G a b else at_ n xs a b) → F ys i j = G i j) :
    ∀ p, p ≤ (n + 1) * (n + 1) → ∀ a b, a ≤ n → b ≤ n → at_ n (eachTo F n xs p) a b = if a * (n + 1) + b < p then G a b else at_ n xs a b
  | 0, _, a, b, _, _ => by simp [eachTo]
  | p + 1, hp, a, b, ha, hb => by
    have ih := eachTo_spec hl hF p (by omega)
    obtain ⟨i, j, hi, hj, rfl⟩ := place_split n p (by omega)
    rw [eachTo_at F n xs i j hj, at_set (by rw [eachTo_length]; exact hl) hi hj ha hb, hF _ i j (by rw [eachTo_length]; exact hl) hi hj ih]
    by_cases h : a = i ∧ b = j
    · obtain ⟨rfl, rfl⟩ := h
      rw [if_pos ⟨rfl, rfl⟩, if_pos (by omega)]
    · rw [if_neg h, ih a b ha hb]
      have hne : a * (n + 1) + b ≠ i * (n + 1) + j := fun he => h (place_inj hb hj he)
      by_cases h2 : a * (n + 1) + b < i * (n + 1) + j
      · rw [if_pos h2, if_pos (by omega)]
      · rw [if_neg h2, if_neg (by omega)]
theorem eachTo_all {F : List Int → Int → Int → Int} {n : Nat} {xs : List Int} {G : Mat} (hl : xs.length = (n + 1) * (n + 1))
    (hF : ∀ (ys : List Int) (i j : Nat), ys.length = (n + 1) * (n + 1) → i ≤ n → j ≤ n → (∀ a b, a ≤ n → b ≤ n → at_ n ys a b = if a * (n + 1) + b < i * (n + 1) + j then G a b else at_ n xs a b) → F ys i j = G i j)
    {a b : Nat} (ha : a ≤ n) (hb : b ≤ n) : at_ n (eachTo F n xs ((n + 1) * (n + 1))) a b = G a b := by
  rw [eachTo_spec hl hF _ (Nat.le_refl _) a b ha hb, if_pos (place_lt ha hb)]
theorem eachTo_inv {F : List Int → Int → Int → Int} {n : Nat} {P : List Int → Prop} (hP : ∀ (ys : List Int) (i j : Nat), i ≤ n → j ≤ n → P ys → P (ys.set (i * (n + 1) + j) (F ys i j))) {xs : List Int} (h0 : P xs) :
    ∀ p, p ≤ (n + 1) * (n + 1) → P (eachTo F n xs p)
  | 0, _ => h0
  | p + 1, hp => by
    have ih := eachTo_inv hP h0 p (by omega)
    obtain ⟨i, j, hi, hj, rfl⟩ := place_split n p (by omega)
    rw [eachTo_at F n xs i j hj]
    exact hP _ i j hi hj ih

/-! ### the program's closing -/
theorem mx_eq (a b : Int) : mx a b = max a b := by unfold mx; split <;> omega
theorem mn_eq (a b : Int) : mn a b = min a b := by unfold mn; split <;> omega
theorem mostF_eq (i j : Nat) : mostF (i : Int) (j : Int) = far i j := by
  unfold mostF far
  by_cases h1 : i = j <;> by_cases h2 : i = 0 <;> by_cases h3 : j = 0 <;> simp_all <;> omega
theorem F1_eq (n : Nat) (ys : List Int) (i j : Nat) : F1 n ys i j = clip (at_ n ys) i j := by
  unfold F1 clip
  rw [mx_eq, mn_eq, rd_at, mostF_eq]; rfl
theorem F2_eq {n k : Nat} {ys : List Int} {c : Mat} (h : Inv n c (at_ n ys)) (hc : ∀ i j, c i j ≤ far i j) (hk : k ≤ n) {i j : Nat} (hi : i ≤ n) (hj : j ≤ n) : F2 n k ys i j = G k (at_ n ys) i j := by
  unfold F2 G
  rw [mx_eq, mn_eq, rd_at, rd_at, rd_at]
  have h1 := h.lo i k hi hk
  have h2 := h.lo k j hk hj
  have h3 := Int.le_trans (h.hi i k hi hk) (hc i k)
  have h4 := Int.le_trans (h.hi k j hk hj) (hc k j)
  have := far_le i k
  have := far_le k j
  rw [w64 (by unfold B at *; omega) (by omega)]
  rfl
/-- The matrix that is closed: cut. -/
def cut (n : Nat) (xs : List Int) : Mat := clip (at_ n xs)
theorem cut_le (n : Nat) (xs : List Int) (i j : Nat) : cut n xs i j ≤ far i j := (clip_range _ i j).2
theorem closeTo_zero {n : Nat} {xs : List Int} (hl : xs.length = (n + 1) * (n + 1)) {a b : Nat} (ha : a ≤ n) (hb : b ≤ n) : at_ n (closeTo n xs 0) a b = cut n xs a b := by
  rw [closeTo]
  refine eachTo_all (G := cut n xs) hl (fun ys i j _ hi hj h => ?_) ha hb
  rw [F1_eq]
  unfold cut clip
  rw [h i j hi hj, if_neg (by omega)]
theorem inv_congr {n c d d'} (h : Inv n c d) (e : ∀ i j, i ≤ n → j ≤ n → d' i j = d i j) : Inv n c d' :=
  ⟨fun i j hi hj => by rw [e i j hi hj]; exact h.lo i j hi hj, fun i j hi hj => by rw [e i j hi hj]; exact h.hi i j hi hj, fun X a b i j hi hj => by rw [e i j hi hj]; exact h.gr X a b i j hi hj⟩
theorem closeTo_inv {n : Nat} {xs : List Int} (hl : xs.length = (n + 1) * (n + 1)) : ∀ k, k ≤ n + 1 → Inv n (cut n xs) (at_ n (closeTo n xs k))
  | 0, _ => inv_congr (Inv.start fun i j => (clip_range (at_ n xs) i j).1) fun i j hi hj => closeTo_zero hl hi hj
  | k + 1, hk => by
    have ih := closeTo_inv hl k (by omega)
    rw [closeTo]
    refine (eachTo_inv (P := fun ys => ys.length = (n + 1) * (n + 1) ∧ Inv n (cut n xs) (at_ n ys)) (fun ys i j hi hj hP => ⟨by rw [List.length_set]; exact hP.1, ?_⟩) ⟨by rw [closeTo_length]; exact hl, ih⟩ _ (Nat.le_refl _)).2
    refine hP.2.step (k := k) (by omega) (fun a b ha hb => ?_)
    rw [at_set hP.1 hi hj ha hb, F2_eq hP.2 (cut_le n xs) (by omega) hi hj]
    by_cases h : a = i ∧ b = j
    · obtain ⟨rfl, rfl⟩ := h
      right; rw [if_pos ⟨rfl, rfl⟩]
    · left; rw [if_neg h]
theorem closeTo_down {n : Nat} {xs : List Int} (hl : xs.length = (n + 1) * (n + 1)) {k : Nat} (hk : k ≤ n) : Under n (at_ n (closeTo n xs (k + 1))) (at_ n (closeTo n xs k)) := by
  have ih := closeTo_inv hl k (by omega)
  rw [closeTo]
  refine (eachTo_inv (P := fun ys => ys.length = (n + 1) * (n + 1) ∧ Inv n (cut n xs) (at_ n ys) ∧ Under n (at_ n ys) (at_ n (closeTo n xs k))) (fun ys i j hi hj hP => ?_) ⟨by rw [closeTo_length]; exact hl, ih, fun _ _ _ _ => Int.le_refl _⟩ _ (Nat.le_refl _)).2.2
  have hs : ∀ a b, a ≤ n → b ≤ n → at_ n (ys.set (i * (n + 1) + j) (F2 n k ys i j)) a b = at_ n ys a b ∨ at_ n (ys.set (i * (n + 1) + j) (F2 n k ys i j)) a b = G k (at_ n ys) a b := by
    intro a b ha hb
    rw [at_set hP.1 hi hj ha hb, F2_eq hP.2.1 (cut_le n xs) (by omega) hi hj]
    by_cases h : a = i ∧ b = j
    · obtain ⟨rfl, rfl⟩ := h
      right; rw [if_pos ⟨rfl, rfl⟩]
    · left; rw [if_neg h]
  exact ⟨by rw [List.length_set]; exact hP.1, hP.2.1.step hk hs, fun a b ha hb => Int.le_trans (step_le hP.2.1 hs a b ha hb) (hP.2.2 a b ha hb)⟩
theorem closeTo_down_to {n : Nat} {xs : List Int} (hl : xs.length = (n + 1) * (n + 1)) {k : Nat} : ∀ m, k + m ≤ n + 1 → Under n (at_ n (closeTo n xs (k + m))) (at_ n (closeTo n xs k))
  | 0, _ => fun _ _ _ _ => Int.le_refl _
  | m + 1, h => fun a b ha hb => Int.le_trans (closeTo_down hl (k := k + m) (by omega) a b ha hb) (closeTo_down_to hl m (by omega) a b ha hb)
theorem closeTo_diag {n : Nat} {xs : List Int} (hl : xs.length = (n + 1) * (n + 1)) (hd : ∀ i, i ≤ n → 0 ≤ at_ n (closeTo n xs (n + 1)) i i) {k : Nat} (hk : k ≤ n + 1) {i : Nat} (hi : i ≤ n) : at_ n (closeTo n xs k) i i = 0 := by
  have h1 := closeTo_down_to hl (k := k) (n + 1 - k) (by omega) i i hi hi
  rw [show k + (n + 1 - k) = n + 1 by omega] at h1
  have h2 := hd i hi
  have h3 := (closeTo_inv hl k hk).hi i i hi hi
  have h4 := cut_le n xs i i
  rw [far_self] at h4
  omega
theorem closeTo_round {n : Nat} {xs : List Int} (hl : xs.length = (n + 1) * (n + 1)) (hd : ∀ i, i ≤ n → 0 ≤ at_ n (closeTo n xs (n + 1)) i i) {k : Nat} (hk : k ≤ n) {a b : Nat} (ha : a ≤ n) (hb : b ≤ n) : at_ n (closeTo n xs (k + 1)) a b = G k (at_ n (closeTo n xs k)) a b := by
  have hI := closeTo_inv hl k (by omega)
  have h0 := closeTo_diag hl hd (k := k) (by omega) hk
  have hlen : (closeTo n xs k).length = (n + 1) * (n + 1) := by rw [closeTo_length]; exact hl
  rw [closeTo]
  refine eachTo_all (G := G k (at_ n (closeTo n xs k))) hlen (fun ys i j hys hi hj h => ?_) ha hb
  have hIy : Inv n (cut n xs) (at_ n ys) := hI.step (k := k) hk (fun a b ha hb => by
    rw [h a b ha hb]
    split
    · exact Or.inr rfl
    · exact Or.inl rfl)
  rw [F2_eq hIy (cut_le n xs) hk hi hj]
  have e1 : at_ n ys i j = at_ n (closeTo n xs k) i j := by rw [h i j hi hj, if_neg (by omega)]
  have e2 : at_ n ys i k = at_ n (closeTo n xs k) i k := by
    rw [h i k hi hk]
    split
    · exact (G_row hI hk h0 hi).2
    · rfl
  have e3 : at_ n ys k j = at_ n (closeTo n xs k) k j := by
    rw [h k j hk hj]
    split
    · exact (G_row hI hk h0 hj).1
    · rfl
  unfold G
  rw [e1, e2, e3]
theorem closeTo_thru {n : Nat} {xs : List Int} (hl : xs.length = (n + 1) * (n + 1)) (hd : ∀ i, i ≤ n → 0 ≤ at_ n (closeTo n xs (n + 1)) i i) : ∀ k, k ≤ n + 1 → Thru n k (at_ n (closeTo n xs k))
  | 0, _ => fun k _ _ h => absurd h (by omega)
  | k + 1, hk => (closeTo_thru hl hd k (by omega)).step (closeTo_inv hl k (by omega)) (cut_le n xs) (by omega) (closeTo_diag hl hd (by omega) (by omega)) (fun i j hi hj => closeTo_round hl hd (by omega) hi hj) (fun i hi => by rw [closeTo_diag hl hd hk hi]; exact Int.le_refl _)
theorem closeOk_iff (n : Nat) (xs : List Int) : closeOk n xs = true ↔ ∀ i, i ≤ n → 0 ≤ at_ n (closeTo n xs (n + 1)) i i := by
  unfold closeOk
  rw [List.all_eq_true]
  constructor
  · intro h i hi
    have := h i (List.mem_range.2 (by omega))
    unfold at_
    simpa using this
  · intro h i hi
    have := h i (by have := List.mem_range.1 hi; omega)
    unfold at_ at this
    simpa using this
/-- What the program's closing tells: the closure, or that there is none. -/
theorem prog_close {n : Nat} {xs : List Int} (hl : xs.length = (n + 1) * (n + 1)) :
    (closeOk n xs = true ∧ IsClosure n (cut n xs) (at_ n (closeTo n xs (n + 1)))) ∨ (closeOk n xs = false ∧ Dead n (cut n xs)) := by
  by_cases h : closeOk n xs = true
  · refine Or.inl ⟨h, ?_⟩
    have hd := (closeOk_iff n xs).1 h
    exact (closeTo_thru hl hd (n + 1) (Nat.le_refl _)).closed (closeTo_inv hl _ (Nat.le_refl _)) (cut_le n xs) hd
  · refine Or.inr ⟨by simpa using h, fun X hX hu => h ((closeOk_iff n xs).2 fun i hi => ?_)⟩
    exact Int.le_trans (hX.2 i hi) ((closeTo_inv hl _ (Nat.le_refl _)).gr X hX hu i i hi hi)
end Go.Proofs.Ytgeemdpflcefkaa.DbmEv
