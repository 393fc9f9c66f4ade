/- the plain law of chapter 08: what closes a matrix of differences (no program in sight) -/
import Derived.RowKit
set_option linter.unusedVariables false
set_option linter.unusedSimpArgs false
namespace Go.Proofs.Ytgeemdpflcefkaa.DbmMath
abbrev Mat := Nat → Nat → Int
def B : Int := -2199023255553
def far (i j : Nat) : Int := if i = j then 0 else if i = 0 then 1099511627776 else if j = 0 then 1099511627776 else 2199023255552
def Closed (n : Nat) (X : Mat) : Prop := (∀ i j k, i ≤ n → j ≤ n → k ≤ n → X i j ≤ X i k + X k j) ∧ ∀ i, i ≤ n → 0 ≤ X i i
def Under (n : Nat) (X c : Mat) : Prop := ∀ i j, i ≤ n → j ≤ n → X i j ≤ c i j
def IsClosure (n : Nat) (c D : Mat) : Prop := Closed n D ∧ Under n D c ∧ ∀ X, Closed n X → Under n X c → Under n X D
def Dead (n : Nat) (c : Mat) : Prop := ∀ X, Closed n X → ¬ Under n X c
theorem IsClosure.unique {n c D E} (h : IsClosure n c D) (h' : IsClosure n c E) : ∀ i j, i ≤ n → j ≤ n → D i j = E i j := fun i j hi hj =>
  Int.le_antisymm (h'.2.2 D h.1 h.2.1 i j hi hj) (h.2.2 E h'.1 h'.2.1 i j hi hj)
theorem IsClosure.not_dead {n c D} (h : IsClosure n c D) : ¬ Dead n c := fun hd => hd D h.1 h.2.1
theorem Closed.self {n X} (h : Closed n X) : IsClosure n X X := ⟨h, fun _ _ _ _ => Int.le_refl _, fun _ _ hu => hu⟩
/-- Within the range's own bounds: a matrix cut to them. -/
def clip (m : Mat) : Mat := fun i j => max (min (m i j) (far i j)) B
theorem far_le (i j : Nat) : 0 ≤ far i j ∧ far i j ≤ 2199023255552 := by unfold far; split <;> (try split) <;> (try split) <;> omega
theorem far_self (i : Nat) : far i i = 0 := by simp [far]
theorem far_comm (i j : Nat) : far i j = far j i := by unfold far; by_cases h : i = j <;> by_cases h1 : i = 0 <;> by_cases h2 : j = 0 <;> simp_all [eq_comm]
theorem far_tri (i j k : Nat) : far i j ≤ far i k + far k j := by
  unfold far
  by_cases h1 : i = j <;> by_cases h2 : i = k <;> by_cases h3 : k = j <;> by_cases h4 : i = 0 <;> by_cases h5 : j = 0 <;> by_cases h6 : k = 0 <;> simp_all <;> omega
theorem clip_range (m : Mat) (i j : Nat) : B ≤ clip m i j ∧ clip m i j ≤ far i j := by
  have := far_le i j
  unfold clip B; omega
/-- What is closed and below the range's bounds is above all that is cut. -/
theorem Closed.above {n X c} (h : Closed n X) (hu : Under n X c) (hc : ∀ i j, c i j ≤ far i j) {i j} (hi : i ≤ n) (hj : j ≤ n) : -2199023255552 ≤ X i j := by
  have h1 := h.1 i i j hi hi hj
  have h2 := h.2 i hi
  have h3 := hu j i hj hi
  have h4 := hc j i
  have := far_le j i
  omega
theorem Closed.diag {n X c} (h : Closed n X) (hu : Under n X c) (hc : ∀ i j, c i j ≤ far i j) {i} (hi : i ≤ n) : X i i = 0 := by
  have h1 := h.2 i hi
  have h2 := hu i i hi hi
  have h3 := hc i i
  rw [far_self] at h3
  omega

/-! ### the program's way: one after the other, each cut at B -/
def G (k : Nat) (x : Mat) : Mat := fun i j => max (min (x i j) (x i k + x k j)) B
structure Inv (n : Nat) (c d : Mat) : Prop where
  lo : ∀ i j, i ≤ n → j ≤ n → B ≤ d i j
  hi : ∀ i j, i ≤ n → j ≤ n → d i j ≤ c i j
  gr : ∀ X, Closed n X → Under n X c → Under n X d
theorem Inv.start {n c} (hb : ∀ i j, B ≤ c i j) : Inv n c c := ⟨fun i j _ _ => hb i j, fun _ _ _ _ => Int.le_refl _, fun _ _ h => h⟩
theorem Inv.step {n c d d'} (h : Inv n c d) {k : Nat} (hk : k ≤ n) (hs : ∀ i j, i ≤ n → j ≤ n → d' i j = d i j ∨ d' i j = G k d i j) : Inv n c d' := by
  refine ⟨fun i j hi hj => ?_, fun i j hi hj => ?_, fun X hX hu i j hi hj => ?_⟩
  · have := h.lo i j hi hj
    rcases hs i j hi hj with e | e <;> rw [e] <;> (try simp only [G]) <;> (try unfold B at *) <;> omega
  · have := h.lo i j hi hj
    have := h.hi i j hi hj
    rcases hs i j hi hj with e | e <;> rw [e] <;> (try simp only [G]) <;> (try unfold B at *) <;> omega
  · have h1 := h.gr X hX hu i j hi hj
    have h2 := h.gr X hX hu i k hi hk
    have h3 := h.gr X hX hu k j hk hj
    have h4 := hX.1 i j k hi hj hk
    rcases hs i j hi hj with e | e <;> rw [e] <;> (try simp only [G]) <;> (try unfold B at *) <;> omega
theorem step_le {n c d d'} (h : Inv n c d) {k : Nat} (hs : ∀ i j, i ≤ n → j ≤ n → d' i j = d i j ∨ d' i j = G k d i j) : Under n d' d := by
  intro i j hi hj
  have := h.lo i j hi hj
  rcases hs i j hi hj with e | e <;> rw [e] <;> (try simp only [G]) <;> (try unfold B at *) <;> omega
/-- With 0 at k, row and column k stay. -/
theorem G_row {n c d k} (h : Inv n c d) (hk : k ≤ n) (h0 : d k k = 0) {j} (hj : j ≤ n) : G k d k j = d k j ∧ G k d j k = d j k := by
  have := h.lo k j hk hj
  have := h.lo j k hj hk
  unfold G; omega
def Thru (n K : Nat) (d : Mat) : Prop := ∀ k i j, k < K → k ≤ n → i ≤ n → j ≤ n → d i j ≤ max B (d i k + d k j)
/-- One round more: K, too, is gone through. -/
theorem Thru.step {n c d d'} {K : Nat} (hi : Inv n c d) (hc : ∀ i j, c i j ≤ far i j) (hK : K ≤ n) (h : Thru n K d) (h0 : d K K = 0) (hs : ∀ i j, i ≤ n → j ≤ n → d' i j = G K d i j) (hd : ∀ i, i ≤ n → 0 ≤ d' i i) : Thru n (K + 1) d' := by
  have hpos : ∀ i, i ≤ n → B < d i K ∧ B < d K i := by
    intro i hin
    have h1 := hd i hin
    rw [hs i i hin hin] at h1
    have h2 : 0 ≤ d i K + d K i := by unfold G B at h1; omega
    have h3 := hi.hi i K hin hK
    have h4 := hi.hi K i hK hin
    have h5 := hc i K
    have h6 := hc K i
    have := far_le i K
    have := far_le K i
    unfold B; omega
  intro k i j hkK hk hin hj
  rw [hs i j hin hj, hs i k hin hk, hs k j hk hj]
  rcases Nat.lt_or_ge k K with hlt | hge
  · have a1 := h k i j hlt hk hin hj
    have a2 := h k i K hlt hk hin hK
    have a3 := h k K j hlt hk hK hj
    have a4 := h k K K hlt hk hK hK
    have b1 := hpos i hin
    have b2 := hpos j hj
    have b3 := hpos k hk
    rw [h0] at a4
    unfold G B at *; omega
  · have : k = K := by omega
    subst this
    have b1 := hpos i hin
    have b2 := hpos j hj
    unfold G B at *; omega
/-- All gone through, and 0 from each to itself: closed. -/
theorem Thru.closed {n c d} (hi : Inv n c d) (hc : ∀ i j, c i j ≤ far i j) (h : Thru n (n + 1) d) (hd : ∀ i, i ≤ n → 0 ≤ d i i) : IsClosure n c d := by
  have lo : ∀ i j, i ≤ n → j ≤ n → B < d i j := by
    intro i j hin hj
    have h1 := h j i i (by omega) hj hin hin
    have h2 := hd i hin
    have h3 := hi.hi j i hj hin
    have h4 := hc j i
    have := far_le j i
    unfold B at *; omega
  refine ⟨⟨fun i j k hin hj hk => ?_, hd⟩, hi.hi, hi.gr⟩
  have h1 := h k i j (by omega) hk hin hj
  have h2 := lo i j hin hj
  omega

/-! ### the reference's way: ways of twice as many steps -/
def IsTwice (n : Nat) (x y : Mat) : Prop := ∀ i j, i ≤ n → j ≤ n → y i j ≤ x i j ∧ (∀ k, k ≤ n → y i j ≤ x i k + x k j) ∧ (y i j = x i j ∨ ∃ k, k ≤ n ∧ y i j = x i k + x k j)
def wk (c : Mat) (i : Nat) : List Nat → Nat → Int
  | [], j => c i j
  | v :: l, j => c i v + wk c v l j
theorem wk_append (c : Mat) : ∀ (i : Nat) (l : List Nat) (k : Nat) (l' : List Nat) (j : Nat), wk c i (l ++ k :: l') j = wk c i l k + wk c k l' j
  | i, [], k, l', j => by simp [wk]
  | i, v :: l, k, l', j => by simp only [List.cons_append, wk, wk_append c v l k l' j]; omega
def Att (n : Nat) (c x : Mat) : Prop := ∀ i j, i ≤ n → j ≤ n → ∃ l : List Nat, (∀ v ∈ l, v ≤ n) ∧ x i j = wk c i l j
def Lower (n : Nat) (c x : Mat) (t : Nat) : Prop := ∀ (l : List Nat) (i j : Nat), i ≤ n → j ≤ n → (∀ v ∈ l, v ≤ n) → l.length + 1 ≤ t → x i j ≤ wk c i l j
theorem Att.start {n c} : Att n c c := fun i j _ _ => ⟨[], by simp, rfl⟩
theorem Lower.start {n c} : Lower n c c 1 := fun l i j _ _ _ h => by
  have : l = [] := List.eq_nil_of_length_eq_zero (by omega)
  subst this; exact Int.le_refl _
theorem Att.step {n c x y} (h : Att n c x) (ht : IsTwice n x y) : Att n c y := by
  intro i j hi hj
  rcases (ht i j hi hj).2.2 with e | ⟨k, hk, e⟩
  · rw [e]; exact h i j hi hj
  · obtain ⟨l, hl, el⟩ := h i k hi hk
    obtain ⟨l', hl', el'⟩ := h k j hk hj
    refine ⟨l ++ k :: l', fun v hv => ?_, by rw [e, el, el', wk_append]⟩
    rcases List.mem_append.1 hv with hv | hv
    · exact hl v hv
    · rcases List.mem_cons.1 hv with rfl | hv
      · exact hk
      · exact hl' v hv
theorem Lower.step {n c x y t} (h : Lower n c x t) (ht0 : 0 < t) (ht : IsTwice n x y) : Lower n c y (2 * t) := by
  intro l i j hi hj hl hlen
  rcases Nat.lt_or_ge l.length t with hlt | hge
  · exact Int.le_trans (ht i j hi hj).1 (h l i j hi hj hl hlt)
  · have hd : l = l.take (t - 1) ++ l[t - 1] :: l.drop t := by
      have h1 := (List.take_append_drop (t - 1) l).symm
      rw [List.drop_eq_getElem_cons (by omega : t - 1 < l.length)] at h1
      rw [show t - 1 + 1 = t by omega] at h1
      exact h1
    have hk : l[t - 1] ≤ n := hl _ (List.getElem_mem _)
    have h1 := (ht i j hi hj).2.1 (l[t - 1]) hk
    have h2 := h (l.take (t - 1)) i (l[t - 1]) hi hk (fun v hv => hl v (List.mem_of_mem_take hv)) (by rw [List.length_take]; omega)
    have h3 := h (l.drop t) (l[t - 1]) j hk hj (fun v hv => hl v (List.mem_of_mem_drop hv)) (by rw [List.length_drop]; omega)
    rw [hd, wk_append]
    omega
theorem dup {l : List Nat} (h : ¬ l.Nodup) : ∃ a v b e, l = a ++ v :: (b ++ v :: e) := by
  induction l with
  | nil => exact absurd List.nodup_nil h
  | cons x t ih =>
    by_cases hx : x ∈ t
    · obtain ⟨b, e, he⟩ := List.append_of_mem hx
      exact ⟨[], x, b, e, by rw [he]; rfl⟩
    · have : ¬ t.Nodup := fun ht => h (List.nodup_cons.2 ⟨hx, ht⟩)
      obtain ⟨a, v, b, e, he⟩ := ih this
      exact ⟨x :: a, v, b, e, by rw [he]; rfl⟩
theorem nodup_len : ∀ (n : Nat) (l : List Nat), l.Nodup → (∀ v ∈ l, v < n) → l.length ≤ n
  | 0, l, _, hl => by
    cases l with
    | nil => simp
    | cons a t => exact absurd (hl a (List.mem_cons_self ..)) (by omega)
  | n + 1, l, hn, hl => by
    have h1 := nodup_len n (l.erase n) (hn.erase n) (fun v hv => by
      have h2 := (List.Nodup.mem_erase_iff hn).1 hv
      have := hl v h2.2
      omega)
    rw [List.length_erase] at h1
    split at h1 <;> omega
theorem shorten {n c x t} (hlow : Lower n c x t) (ht : n + 2 ≤ t) (hd : ∀ i, i ≤ n → 0 ≤ x i i) : ∀ (m : Nat) (l : List Nat) (i j : Nat), l.length ≤ m → i ≤ n → j ≤ n → (∀ v ∈ l, v ≤ n) → ∃ l' : List Nat, l'.length ≤ n + 1 ∧ (∀ v ∈ l', v ≤ n) ∧ wk c i l' j ≤ wk c i l j
  | 0, l, i, j, h, _, _, hl => ⟨l, by omega, hl, Int.le_refl _⟩
  | m + 1, l, i, j, h, hi, hj, hl => by
    by_cases hn : l.Nodup
    · exact ⟨l, nodup_len (n + 1) l hn (fun v hv => by have := hl v hv; omega), hl, Int.le_refl _⟩
    · obtain ⟨a, v, b, e, rfl⟩ := dup hn
      have hv : v ≤ n := hl v (by simp)
      have hb : ∀ u ∈ b, u ≤ n := fun u hu => hl u (by simp [hu])
      simp only [List.length_append, List.length_cons] at h
      obtain ⟨b', l1, l2, l3⟩ := shorten hlow ht hd m b v v (by omega) hv hv hb
      have h0 := hlow b' v v hv hv l2 (by omega)
      have h1 := hd v hv
      obtain ⟨l', q1, q2, q3⟩ := shorten hlow ht hd m (a ++ v :: e) i j (by simp only [List.length_append, List.length_cons]; omega) hi hj (fun u hu => hl u (by
        rcases List.mem_append.1 hu with hu | hu
        · simp [hu]
        · rcases List.mem_cons.1 hu with rfl | hu <;> simp [*]))
      refine ⟨l', q1, q2, Int.le_trans q3 ?_⟩
      rw [wk_append, wk_append, wk_append]
      omega
theorem Att.closed {n c x t} (ha : Att n c x) (hlow : Lower n c x t) (ht : n + 2 ≤ t) (hle : Under n x c) (hd : ∀ i, i ≤ n → 0 ≤ x i i) (hg : ∀ X, Closed n X → Under n X c → Under n X x) : IsClosure n c x := by
  refine ⟨⟨fun i j k hi hj hk => ?_, hd⟩, hle, hg⟩
  obtain ⟨l, hl, el⟩ := ha i k hi hk
  obtain ⟨l', hl', el'⟩ := ha k j hk hj
  obtain ⟨l'', s1, s2, s3⟩ := shorten hlow ht hd (l ++ k :: l').length (l ++ k :: l') i j (Nat.le_refl _) hi hj (fun v hv => by
    rcases List.mem_append.1 hv with hv | hv
    · exact hl v hv
    · rcases List.mem_cons.1 hv with rfl | hv
      · exact hk
      · exact hl' v hv)
  have h1 := hlow l'' i j hi hj s2 (by omega)
  rw [wk_append] at s3
  omega
theorem IsTwice.greater {n c x y} (ht : IsTwice n x y) (h : ∀ X, Closed n X → Under n X c → Under n X x) : ∀ X, Closed n X → Under n X c → Under n X y := by
  intro X hX hu i j hi hj
  rcases (ht i j hi hj).2.2 with e | ⟨k, hk, e⟩
  · rw [e]; exact h X hX hu i j hi hj
  · rw [e]
    have h1 := h X hX hu i k hi hk
    have h2 := h X hX hu k j hk hj
    have h3 := hX.1 i j k hi hj hk
    omega
theorem IsTwice.under {n c x y} (ht : IsTwice n x y) (h : Under n x c) : Under n y c := fun i j hi hj => Int.le_trans (ht i j hi hj).1 (h i j hi hj)
theorem IsTwice.closed {n x y} (hx : Closed n x) (ht : IsTwice n x y) : ∀ i j, i ≤ n → j ≤ n → y i j = x i j := by
  intro i j hi hj
  rcases (ht i j hi hj).2.2 with e | ⟨k, hk, e⟩
  · exact e
  · have h1 := hx.1 i j k hi hj hk
    have h2 := (ht i j hi hj).1
    omega
end Go.Proofs.Ytgeemdpflcefkaa.DbmMath
