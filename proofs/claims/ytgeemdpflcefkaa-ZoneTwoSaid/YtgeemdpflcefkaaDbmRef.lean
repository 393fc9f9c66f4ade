/- chapter 08: what the reference's closing tells: the same as the program's -/
import Derived.Test.YtgeemdpflcefkaaZx3
import Derived.Test.YtgeemdpflcefkaaZx4
import Derived.Test.YtgeemdpflcefkaaZx5
import Derived.Test.YtgeemdpflcefkaaZx7
import Derived.Test.YtgeemdpflcefkaaZx33
import Derived.Test.YtgeemdpflcefkaaZx34
import Derived.Test.YtgeemdpflcefkaaDbmHas1
set_option linter.unusedVariables false
set_option linter.unusedSimpArgs false
namespace Go.Proofs.Ytgeemdpflcefkaa.DbmEv
open Go.RowKit Go.Proofs.Ytgeemdpflcefkaa.Z Go.Proofs.YtgeemdpflcefkaaW.PrintWords Go.Proofs.YtgeemdpflcefkaaW.PrintLast Go.Proofs.Ytgeemdpflcefkaa.DbmMath
theorem Ev.up {α} {l : Nat → Nat → Option α} {r : α} {N : Nat} (hend : Ev (fun k => l k N) r) (hgo : ∀ i, i < N → Ev (fun k => l k (i + 1)) r → Ev (fun k => l k i) r) : ∀ m i, i + m = N → Ev (fun k => l k i) r
  | 0, i, h => by
    have : i = N := by omega
    subst this; exact hend
  | m + 1, i, h => hgo i (by omega) (Ev.up hend hgo m (i + 1) (by omega))
theorem Ev.up0 {α} {l : Nat → Nat → Option α} {r : α} {N : Nat} (hend : Ev (fun k => l k N) r) (hgo : ∀ i, i < N → Ev (fun k => l k (i + 1)) r → Ev (fun k => l k i) r) : Ev (fun k => l k 0) r := Ev.up hend hgo N 0 (by omega)
theorem first_no {P : Nat → Prop} [DecidablePred P] : ∀ N, (¬ ∀ j, j < N → P j) → ∃ j, j < N ∧ (∀ i, i < j → P i) ∧ ¬ P j
  | 0, h => absurd (fun j hj => absurd hj (by omega)) h
  | N + 1, h => by
    by_cases h1 : ∀ j, j < N → P j
    · refine ⟨N, by omega, h1, fun h2 => h fun j hj => ?_⟩
      rcases Nat.lt_or_ge j N with h3 | h3
      · exact h1 j h3
      · have : j = N := by omega
        rw [this]; exact h2
    · obtain ⟨j, a, b, c⟩ := first_no N h1
      exact ⟨j, by omega, b, c⟩
/-- A matrix's first numbers, row by row. -/
def pre (n : Nat) (G : Mat) (p : Nat) : List Int := (List.range p).map fun q => G (q / (n + 1)) (q % (n + 1))
theorem pre_len (n : Nat) (G : Mat) (p : Nat) : (pre n G p).length = p := by simp [pre]
theorem pre_succ (n : Nat) (G : Mat) (i j : Nat) (hj : j ≤ n) : pre n G (i * (n + 1) + j) ++ [G i j] = pre n G (i * (n + 1) + (j + 1)) := by
  have h1 : (i * (n + 1) + j) / (n + 1) = i := by
    rw [Nat.add_comm, Nat.mul_comm, Nat.add_mul_div_left _ _ (Nat.succ_pos n), Nat.div_eq_of_lt (by omega), Nat.zero_add]
  have h2 : (i * (n + 1) + j) % (n + 1) = j := by
    rw [Nat.add_comm, Nat.mul_comm, Nat.add_mul_mod_self_left, Nat.mod_eq_of_lt (by omega)]
  unfold pre
  rw [show i * (n + 1) + (j + 1) = (i * (n + 1) + j) + 1 by omega, List.range_succ, List.map_append, List.map_singleton, h1, h2]
theorem pre_row (n : Nat) (G : Mat) (i : Nat) : pre n G (i * (n + 1) + (n + 1)) = pre n G ((i + 1) * (n + 1) + 0) := by
  rw [show (i + 1) * (n + 1) + 0 = i * (n + 1) + (n + 1) by rw [Nat.succ_mul]; omega]
theorem pre_at {n : Nat} {G : Mat} {i j : Nat} (hi : i ≤ n) (hj : j ≤ n) : at_ n (pre n G ((n + 1) * (n + 1))) i j = G i j := by
  have hlt := place_lt hi hj
  have h1 : (i * (n + 1) + j) / (n + 1) = i := by
    rw [Nat.add_comm, Nat.mul_comm, Nat.add_mul_div_left _ _ (Nat.succ_pos n), Nat.div_eq_of_lt (by omega), Nat.zero_add]
  have h2 : (i * (n + 1) + j) % (n + 1) = j := by
    rw [Nat.add_comm, Nat.mul_comm, Nat.add_mul_mod_self_left, Nat.mod_eq_of_lt (by omega)]
  unfold at_ pre
  rw [rd_nat, List.getD_eq_getElem?_getD, List.getElem?_map, List.getElem?_range hlt]
  simp [h1, h2]
theorem far_f (i j : Nat) : warrantorref08_far.f (i : Int) (j : Int) = some (far i j) := by
  rw [← mostF_eq]
  unfold warrantorref08_far.f mostF
  split
  · rfl
  · split
    · rfl
    · split <;> rfl
theorem ev_clip {n : Nat} (hn : n ≤ 8) {xs : List Int} (hl : xs.length = (n + 1) * (n + 1)) : Ev (fun k => warrantorref08_clip.f k (n : Int) xs) (pre n (cut n xs) ((n + 1) * (n + 1))) := by
  unfold warrantorref08_clip.f
  have hs := size_le hn
  have h0 : ([] : List Int) = pre n (cut n xs) (0 * (n + 1) + 0) := by simp [pre]
  rw [h0]
  refine Ev.up0 (l := fun k i => warrantorref08_clip.l0 k (n : Int) xs (pre n (cut n xs) (i * (n + 1) + 0)) (i : Int)) (N := n + 1) ?_ ?_
  · refine Ev.succ (fun k => by rw [warrantorref08_clip.l0]) ?_
    simp only [if_neg (show ¬ ((n + 1 : Nat) : Int) ≤ (n : Int) by omega), Nat.add_zero]
    exact Ev.const rfl
  · intro i hi hrest
    refine Ev.succ (fun k => by rw [warrantorref08_clip.l0]) ?_
    simp only [if_pos (show (i : Int) ≤ (n : Int) by omega)]
    refine Ev.up0 (l := fun k j => warrantorref08_clip.l1 k (n : Int) xs (pre n (cut n xs) (i * (n + 1) + j)) (i : Int) (j : Int)) (N := n + 1) ?_ ?_
    · refine Ev.succ (fun k => by rw [warrantorref08_clip.l1]) ?_
      simp only [if_neg (show ¬ ((n + 1 : Nat) : Int) ≤ (n : Int) by omega), succ_nat i (by omega), pre_row]
      exact hrest
    · intro j hj hnext
      have hp := place_lt (show i ≤ n by omega) (show j ≤ n by omega)
      have hlen : (pre n (cut n xs) (i * (n + 1) + j)).length < 17592186044416 := by rw [pre_len]; omega
      refine Ev.succ (fun k => by rw [warrantorref08_clip.l1]) ?_
      simp only [if_pos (show (j : Int) ≤ (n : Int) by omega), ref_at n hn i j (by omega) (by omega), if_pos (show (0 : Int) ≤ ((i * (n + 1) + j : Nat) : Int) by omega), if_pos (show ((i * (n + 1) + j : Nat) : Int) < (xs.length : Int) by omega), far_f, Option.bind_some, if_pos hlen, succ_nat j (by omega)]
      have hc : cut n xs i j = max (min (rd xs ((i * (n + 1) + j : Nat) : Int)) (far i j)) B := rfl
      have hf := far_le i j
      have hB : B = -2199023255553 := rfl
      rw [← pre_succ n (cut n xs) i j (by omega)] at hnext
      by_cases h1 : rd xs ((i * (n + 1) + j : Nat) : Int) > far i j
      · simp only [if_pos h1, if_neg (show ¬ far i j < -2199023255553 by omega)]
        rw [show cut n xs i j = far i j by omega] at hnext
        exact hnext
      · simp only [if_neg h1]
        by_cases h2 : rd xs ((i * (n + 1) + j : Nat) : Int) < -2199023255553
        · simp only [if_pos h2]
          rw [show cut n xs i j = -2199023255553 by omega] at hnext
          exact hnext
        · simp only [if_neg h2]
          rw [show cut n xs i j = rd xs ((i * (n + 1) + j : Nat) : Int) by omega] at hnext
          exact hnext
/-- The least of the ways over the first so many. -/
def twk (x : Mat) (i j : Nat) : Nat → Int
  | 0 => x i j
  | k + 1 => if x i k + x k j < twk x i j k then x i k + x k j else twk x i j k
theorem twk_spec (x : Mat) (i j : Nat) : ∀ m, twk x i j m ≤ x i j ∧ (∀ k, k < m → twk x i j m ≤ x i k + x k j) ∧ (twk x i j m = x i j ∨ ∃ k, k < m ∧ twk x i j m = x i k + x k j)
  | 0 => ⟨Int.le_refl _, fun k h => absurd h (by omega), Or.inl rfl⟩
  | m + 1 => by
    obtain ⟨h1, h2, h3⟩ := twk_spec x i j m
    unfold twk
    split
    · next h =>
      refine ⟨by omega, fun k hk => ?_, Or.inr ⟨m, by omega, rfl⟩⟩
      rcases Nat.lt_or_ge k m with h4 | h4
      · have := h2 k h4; omega
      · have : k = m := by omega
        subst this; exact Int.le_refl _
    · next h =>
      refine ⟨h1, fun k hk => ?_, ?_⟩
      · rcases Nat.lt_or_ge k m with h4 | h4
        · exact h2 k h4
        · have : k = m := by omega
          subst this; omega
      · rcases h3 with h3 | ⟨k, hk, h3⟩
        · exact Or.inl h3
        · exact Or.inr ⟨k, by omega, h3⟩
def tw (n : Nat) (x : Mat) : Mat := fun i j => twk x i j (n + 1)
theorem tw_is (n : Nat) (x : Mat) : IsTwice n x (tw n x) := by
  intro i j _ _
  obtain ⟨h1, h2, h3⟩ := twk_spec x i j (n + 1)
  refine ⟨h1, fun k hk => h2 k (by omega), ?_⟩
  rcases h3 with h3 | ⟨k, hk, h3⟩
  · exact Or.inl h3
  · exact Or.inr ⟨k, by omega, h3⟩
def Bnd (n : Nat) (x : Mat) (b : Int) : Prop := ∀ i j, i ≤ n → j ≤ n → -b ≤ x i j ∧ x i j ≤ 2199023255552
theorem tw_bnd {n : Nat} {x : Mat} {b : Int} (h : Bnd n x b) (hb : 0 ≤ b) : Bnd n (tw n x) (2 * b) := by
  intro i j hi hj
  have h0 := tw_is n x i j hi hj
  have h1 := h i j hi hj
  refine ⟨?_, by omega⟩
  rcases h0.2.2 with e | ⟨k, hk, e⟩
  · omega
  · have h2 := h i k hi hk
    have h3 := h k j hk hj
    omega
theorem twk_bnd {n : Nat} {x : Mat} {b : Int} (h : Bnd n x b) (hb : 0 ≤ b) {i j : Nat} (hi : i ≤ n) (hj : j ≤ n) : ∀ m, m ≤ n + 1 → -(2 * b) ≤ twk x i j m ∧ twk x i j m ≤ 2199023255552 := by
  intro m hm
  have h1 := h i j hi hj
  obtain ⟨a, _, c⟩ := twk_spec x i j m
  refine ⟨?_, by omega⟩
  rcases c with e | ⟨k, hk, e⟩
  · omega
  · have h2 := h i k hi (by omega)
    have h3 := h k j (by omega) hj
    omega
theorem ev_twice {n : Nat} (hn : n ≤ 8) {xs : List Int} (hl : xs.length = (n + 1) * (n + 1)) {b : Int} (hb : 0 ≤ b) (hb2 : b ≤ 1152921504606846976) (hx : Bnd n (at_ n xs) b) : Ev (fun k => warrantorref08_twice.f k (n : Int) xs) (pre n (tw n (at_ n xs)) ((n + 1) * (n + 1))) := by
  unfold warrantorref08_twice.f
  have hs := size_le hn
  have h0 : ([] : List Int) = pre n (tw n (at_ n xs)) (0 * (n + 1) + 0) := by simp [pre]
  rw [h0]
  refine Ev.up0 (l := fun k i => warrantorref08_twice.l0 k (n : Int) xs (pre n (tw n (at_ n xs)) (i * (n + 1) + 0)) (i : Int)) (N := n + 1) ?_ ?_
  · refine Ev.succ (fun k => by rw [warrantorref08_twice.l0]) ?_
    simp only [if_neg (show ¬ ((n + 1 : Nat) : Int) ≤ (n : Int) by omega), Nat.add_zero]
    exact Ev.const rfl
  · intro i hi hrest
    refine Ev.succ (fun k => by rw [warrantorref08_twice.l0]) ?_
    simp only [if_pos (show (i : Int) ≤ (n : Int) by omega)]
    refine Ev.up0 (l := fun k j => warrantorref08_twice.l1 k (n : Int) xs (pre n (tw n (at_ n xs)) (i * (n + 1) + j)) (i : Int) (j : Int)) (N := n + 1) ?_ ?_
    · refine Ev.succ (fun k => by rw [warrantorref08_twice.l1]) ?_
      simp only [if_neg (show ¬ ((n + 1 : Nat) : Int) ≤ (n : Int) by omega), succ_nat i (by omega), pre_row]
      exact hrest
    · intro j hj hnext
      have hp := place_lt (show i ≤ n by omega) (show j ≤ n by omega)
      refine Ev.succ (fun k => by rw [warrantorref08_twice.l1]) ?_
      simp only [if_pos (show (j : Int) ≤ (n : Int) by omega), ref_at n hn i j (by omega) (by omega), if_pos (show (0 : Int) ≤ ((i * (n + 1) + j : Nat) : Int) by omega), if_pos (show ((i * (n + 1) + j : Nat) : Int) < (xs.length : Int) by omega)]
      refine Ev.up0 (l := fun k m => warrantorref08_twice.l2 k (n : Int) xs (pre n (tw n (at_ n xs)) (i * (n + 1) + j)) (i : Int) (j : Int) (twk (at_ n xs) i j m) (m : Int)) (N := n + 1) ?_ ?_
      · have hlen : (pre n (tw n (at_ n xs)) (i * (n + 1) + j)).length < 17592186044416 := by rw [pre_len]; omega
        refine Ev.succ (fun k => by rw [warrantorref08_twice.l2]) ?_
        simp only [if_neg (show ¬ ((n + 1 : Nat) : Int) ≤ (n : Int) by omega), if_pos hlen, succ_nat j (by omega)]
        rw [← pre_succ n (tw n (at_ n xs)) i j (by omega)] at hnext
        exact hnext
      · intro m hm h
        have p1 := place_lt (show i ≤ n by omega) (show m ≤ n by omega)
        have p2 := place_lt (show m ≤ n by omega) (show j ≤ n by omega)
        have b1 := hx i m (by omega) (by omega)
        have b2 := hx m j (by omega) (by omega)
        refine Ev.succ (fun k => by rw [warrantorref08_twice.l2]) ?_
        have e1 : rd xs ((i * (n + 1) + m : Nat) : Int) = at_ n xs i m := rfl
        have e2 : rd xs ((m * (n + 1) + j : Nat) : Int) = at_ n xs m j := rfl
        simp only [if_pos (show (m : Int) ≤ (n : Int) by omega), ref_at n hn i m (by omega) (by omega), ref_at n hn m j (by omega) (by omega), if_pos (show (0 : Int) ≤ ((i * (n + 1) + m : Nat) : Int) by omega), if_pos (show ((i * (n + 1) + m : Nat) : Int) < (xs.length : Int) by omega), if_pos (show (0 : Int) ≤ ((m * (n + 1) + j : Nat) : Int) by omega), if_pos (show ((m * (n + 1) + j : Nat) : Int) < (xs.length : Int) by omega), e1, e2, w64 (x := at_ n xs i m + at_ n xs m j) (by omega) (by omega), succ_nat m (by omega)]
        unfold twk at h
        by_cases h1 : at_ n xs i m + at_ n xs m j < twk (at_ n xs) i j m
        · simp only [if_pos h1] at h ⊢; exact h
        · simp only [if_neg h1] at h ⊢; exact h
/-- The reference's four stages. -/
def stage (n : Nat) (xs : List Int) : Nat → List Int
  | 0 => pre n (cut n xs) ((n + 1) * (n + 1))
  | t + 1 => pre n (tw n (at_ n (stage n xs t))) ((n + 1) * (n + 1))
theorem stage_len (n : Nat) (xs : List Int) : ∀ t, (stage n xs t).length = (n + 1) * (n + 1)
  | 0 => pre_len _ _ _
  | _ + 1 => pre_len _ _ _
theorem stage_twice (n : Nat) (xs : List Int) (t : Nat) : IsTwice n (at_ n (stage n xs t)) (at_ n (stage n xs (t + 1))) := by
  intro i j hi hj
  have h := tw_is n (at_ n (stage n xs t)) i j hi hj
  have e : at_ n (stage n xs (t + 1)) i j = tw n (at_ n (stage n xs t)) i j := pre_at hi hj
  rw [e]; exact h
theorem stage_bnd (n : Nat) (xs : List Int) : ∀ t, Bnd n (at_ n (stage n xs t)) (2 ^ t * 2199023255553)
  | 0 => fun i j hi hj => by
    have e : at_ n (stage n xs 0) i j = cut n xs i j := pre_at hi hj
    have h1 := clip_range (at_ n xs) i j
    have h2 := far_le i j
    have h3 : cut n xs i j = clip (at_ n xs) i j := rfl
    have hB : B = -2199023255553 := rfl
    rw [e]; omega
  | t + 1 => fun i j hi hj => by
    have h := tw_bnd (stage_bnd n xs t) (Int.mul_nonneg (Int.pow_nonneg (by omega)) (by omega)) i j hi hj
    have e : at_ n (stage n xs (t + 1)) i j = tw n (at_ n (stage n xs t)) i j := pre_at hi hj
    rw [e, Int.pow_succ]
    omega
theorem stage_all (n : Nat) (xs : List Int) : ∀ t, Att n (cut n xs) (at_ n (stage n xs t)) ∧ Lower n (cut n xs) (at_ n (stage n xs t)) (2 ^ t) ∧ Under n (at_ n (stage n xs t)) (cut n xs) ∧ (∀ X, Closed n X → Under n X (cut n xs) → Under n X (at_ n (stage n xs t)))
  | 0 => by
    have e : ∀ i j, i ≤ n → j ≤ n → at_ n (stage n xs 0) i j = cut n xs i j := fun i j hi hj => pre_at hi hj
    refine ⟨fun i j hi hj => by rw [e i j hi hj]; exact Att.start i j hi hj, fun l i j hi hj h1 h2 => by rw [e i j hi hj]; exact Lower.start l i j hi hj h1 h2, fun i j hi hj => by rw [e i j hi hj]; exact Int.le_refl _, fun X _ hu i j hi hj => by rw [e i j hi hj]; exact hu i j hi hj⟩
  | t + 1 => by
    obtain ⟨h1, h2, h3, h4⟩ := stage_all n xs t
    have ht := stage_twice n xs t
    refine ⟨h1.step ht, ?_, ht.under h3, ht.greater h4⟩
    have := h2.step (Nat.pow_pos (by omega)) ht
    rw [Nat.pow_succ, Nat.mul_comm]; exact this
/-- The reference's closing and the program's: the same. -/
theorem ref_close {n : Nat} (hn : n ≤ 8) {xs : List Int} (hl : xs.length = (n + 1) * (n + 1)) :
    (closeOk n xs = true ∧ (∀ i, i ≤ n → 0 ≤ at_ n (stage n xs 4) i i) ∧ stage n xs 4 = closeTo n xs (n + 1)) ∨ (closeOk n xs = false ∧ ¬ ∀ i, i ≤ n → 0 ≤ at_ n (stage n xs 4) i i) := by
  obtain ⟨h1, h2, h3, h4⟩ := stage_all n xs 4
  have hc : (∀ i, i ≤ n → 0 ≤ at_ n (stage n xs 4) i i) → IsClosure n (cut n xs) (at_ n (stage n xs 4)) := fun hd => h1.closed h2 (by have : 2 ^ 4 = 16 := rfl; omega) h3 hd h4
  rcases prog_close hl with ⟨a, hD⟩ | ⟨a, hD⟩
  · have hd : ∀ i, i ≤ n → 0 ≤ at_ n (stage n xs 4) i i := fun i hi => Int.le_trans (hD.1.2 i hi) (h4 _ hD.1 hD.2.1 i i hi hi)
    exact Or.inl ⟨a, hd, list_eq (stage_len n xs 4) (by rw [closeTo_length]; exact hl) ((hc hd).unique hD)⟩
  · exact Or.inr ⟨a, fun hd => (hc hd).not_dead hD⟩
theorem ev_refClose {n : Nat} (hn : n ≤ 8) {xs : List Int} (hl : xs.length = (n + 1) * (n + 1)) : Ev (fun k => warrantorref08_Close.f k (n : Int) xs) ((n : Int), if closeOk n xs = true then closeTo n xs (n + 1) else []) := by
  unfold warrantorref08_Close.f
  have hs := size_le hn
  refine Ev.bind (ev_clip hn hl) ?_
  refine Ev.up0 (l := fun k t => warrantorref08_Close.l0 k (n : Int) (stage n xs t) (t : Int)) (N := 4) ?_ ?_
  · refine Ev.succ (fun k => by rw [warrantorref08_Close.l0]) ?_
    simp only [if_neg (show ¬ ((4 : Nat) : Int) < 4 by decide)]
    have hlen := stage_len n xs 4
    have go : ∀ i r, i < n + 1 → 0 ≤ at_ n (stage n xs 4) i i → Ev (fun k => warrantorref08_Close.l1 k (n : Int) (stage n xs 4) ((i + 1 : Nat) : Int)) r → Ev (fun k => warrantorref08_Close.l1 k (n : Int) (stage n xs 4) (i : Int)) r := by
      intro i r hi hd h
      have hp := place_lt (show i ≤ n by omega) (show i ≤ n by omega)
      refine Ev.succ (fun k => by rw [warrantorref08_Close.l1]) ?_
      simp only [if_pos (show (i : Int) ≤ (n : Int) by omega), ref_at n hn i i (by omega) (by omega), if_pos (show (0 : Int) ≤ ((i * (n + 1) + i : Nat) : Int) by omega), if_pos (show ((i * (n + 1) + i : Nat) : Int) < ((stage n xs 4).length : Int) by omega), succ_nat i (by omega)]
      unfold at_ at hd
      simp only [if_neg (show ¬ rd (stage n xs 4) ((i * (n + 1) + i : Nat) : Int) < 0 by omega)]
      exact h
    rcases ref_close hn hl with ⟨a, hd, e⟩ | ⟨a, hd⟩
    · simp only [if_pos a]
      refine Ev.up0 (l := fun k i => warrantorref08_Close.l1 k (n : Int) (stage n xs 4) (i : Int)) (N := n + 1) ?_ (fun i hi h => go i _ hi (hd i (by omega)) h)
      refine Ev.succ (fun k => by rw [warrantorref08_Close.l1]) ?_
      simp only [if_neg (show ¬ ((n + 1 : Nat) : Int) ≤ (n : Int) by omega)]
      exact Ev.const (by rw [e])
    · simp only [a, if_neg Bool.false_ne_true]
      obtain ⟨m, hm, hlt, hno⟩ := first_no (P := fun i => 0 ≤ at_ n (stage n xs 4) i i) (n + 1) (fun h => hd fun i hi => h i (by omega))
      refine Ev.up0 (l := fun k i => warrantorref08_Close.l1 k (n : Int) (stage n xs 4) (i : Int)) (N := m) ?_ (fun i hi h => go i _ (by omega) (hlt i hi) h)
      have hp := place_lt (show m ≤ n by omega) (show m ≤ n by omega)
      refine Ev.succ (fun k => by rw [warrantorref08_Close.l1]) ?_
      simp only [if_pos (show (m : Int) ≤ (n : Int) by omega), ref_at n hn m m (by omega) (by omega), if_pos (show (0 : Int) ≤ ((m * (n + 1) + m : Nat) : Int) by omega), if_pos (show ((m * (n + 1) + m : Nat) : Int) < ((stage n xs 4).length : Int) by omega)]
      unfold at_ at hno
      simp only [if_pos (show rd (stage n xs 4) ((m * (n + 1) + m : Nat) : Int) < 0 by omega)]
      exact Ev.const rfl
  · intro t ht h
    refine Ev.succ (fun k => by rw [warrantorref08_Close.l0]) ?_
    simp only [if_pos (show (t : Int) < 4 by omega), succ_nat t (by omega)]
    have hb := stage_bnd n xs t
    have h2 : (2 : Int) ^ t * 2199023255553 ≤ 1152921504606846976 := by
      have : t = 0 ∨ t = 1 ∨ t = 2 ∨ t = 3 := by omega
      rcases this with rfl | rfl | rfl | rfl <;> decide
    refine Ev.bind (ev_twice hn (stage_len n xs t) (Int.mul_nonneg (Int.pow_nonneg (by omega)) (by omega)) h2 hb) ?_
    exact h
/-! ### all -/
theorem ev_refSame (a b : Int) (xs ys : List Int) (hx : xs.length ≤ 4611686018427387904) : Ev (fun k => warrantorref08_Same.f k a xs b ys) (decide (a = b ∧ xs = ys)) := by
  unfold warrantorref08_Same.f
  by_cases hab : a = b
  · simp only [if_pos hab]
    refine Ev.succ (fun k => by rw [warrantorref08_Same.j0]) ?_
    by_cases hl : xs.length = ys.length
    · have e : ((xs.length : Int) != (ys.length : Int)) = false := by rw [bne_eq_false_iff_eq]; omega
      simp only [e, if_neg Bool.false_ne_true]
      have h := Ev.loop0 (l := fun k i => warrantorref08_Same.l0 k (i : Int) a xs b ys) (P := fun i => decide (rd xs i = rd ys i)) (rest := true) (N := xs.length) ?_ ?_ ?_
      · have e : ((List.range' 0 xs.length).all (fun i => decide (rd xs i = rd ys i)) && true) = decide (a = b ∧ xs = ys) := by
          rw [Bool.and_true]
          apply Bool.eq_iff_iff.2
          rw [all0, decide_eq_true_eq]
          constructor
          · intro h
            refine ⟨hab, List.ext_getElem hl fun i h1 h2 => ?_⟩
            have := of_decide_eq_true (h i h1)
            rwa [rd_get h1, rd_get h2] at this
          · rintro ⟨_, rfl⟩ i _
            simp
        rw [e] at h
        exact h
      · intro _
        refine Ev.succ (fun k => by rw [warrantorref08_Same.l0]) ?_
        simp only [if_neg (Int.lt_irrefl _)]
        exact Ev.const rfl
      · intro i s hi _ hp hs
        refine Ev.succ (fun k => by rw [warrantorref08_Same.l0]) ?_
        simp only [if_pos (show (i : Int) < (xs.length : Int) by omega), if_pos (show (0 : Int) ≤ (i : Int) by omega), if_pos (show (i : Int) < (ys.length : Int) by omega), if_pos (of_decide_eq_true hp), succ_nat i (by omega)]
        exact hs
      · intro i hi _ hp
        refine Ev.succ (fun k => by rw [warrantorref08_Same.l0]) ?_
        simp only [if_pos (show (i : Int) < (xs.length : Int) by omega), if_pos (show (0 : Int) ≤ (i : Int) by omega), if_pos (show (i : Int) < (ys.length : Int) by omega), if_neg (of_decide_eq_false hp)]
        exact Ev.const rfl
    · have e : ((xs.length : Int) != (ys.length : Int)) = true := by rw [bne_iff_ne]; omega
      simp only [e, if_pos]
      have : ¬ xs = ys := fun h => hl (by rw [h])
      exact Ev.const (by simp [this])
  · simp only [if_neg hab]
    have e : decide (a = b ∧ xs = ys) = false := decide_eq_false fun h => hab h.1
    rw [e]
    refine Ev.succ (fun k => by rw [warrantorref08_Same.j0]) ?_
    simp only [if_pos]
    exact Ev.const rfl
theorem refVars_f (a : Int) : warrantorref08_Vars.f a = some (vars a) := vars_f a
end Go.Proofs.Ytgeemdpflcefkaa.DbmEv
