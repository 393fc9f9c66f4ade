import Derived.RowKit
import Derived.Test.YtgeemdpflcefkaaYx3
import Derived.Test.YtgeemdpflcefkaaYx4
import Derived.Test.YtgeemdpflcefkaaYx5
import Derived.Test.YtgeemdpflcefkaaYx6
import Derived.Test.YtgeemdpflcefkaaYx7
import Derived.Test.YtgeemdpflcefkaaYx8
import Derived.Test.YtgeemdpflcefkaaYx12
import Derived.Test.YtgeemdpflcefkaaYx13
import Derived.Test.YtgeemdpflcefkaaYx14
import Derived.Test.YtgeemdpflcefkaaYx15
import Derived.Test.YtgeemdpflcefkaaYx18
import Derived.Test.YtgeemdpflcefkaaYx19
import Derived.Test.YtgeemdpflcefkaaYx20
import Derived.Test.YtgeemdpflcefkaaYx21
import Derived.Test.YtgeemdpflcefkaaYx22
import Derived.Test.YtgeemdpflcefkaaYx23
import Derived.Test.YtgeemdpflcefkaaYx24
import Derived.Test.YtgeemdpflcefkaaYx25
import Derived.Test.YtgeemdpflcefkaaYx29
import Derived.Test.YtgeemdpflcefkaaYx30
import Derived.Test.YtgeemdpflcefkaaYx33
set_option linter.unusedVariables false
set_option linter.unusedSimpArgs false
/- the plain law of chapter 08: what closes a matrix of differences (no program in sight) -/
namespace Go.Proofs.Ytgeemdpflcefkaa.DbmMath
abbrev Mat := Nat → Nat → Int
def B : Int := -2199023255553
def far (i j : Nat) : Int := if i = j then 0 else if i = 0 then 1099511627776 else if j = 0 then 1099511627776 else 2199023255552
def Closed (n : Nat) (X : Mat) : Prop := (∀ i j k, i ≤ n → j ≤ n → k ≤ n → X i j ≤ X i k + X k j) ∧ ∀ i, i ≤ n → 0 ≤ X i i
def Under (n : Nat) (X c : Mat) : Prop := ∀ i j, i ≤ n → j ≤ n → X i j ≤ c i j
def IsClosure (n : Nat) (c D : Mat) : Prop := Closed n D ∧ Under n D c ∧ ∀ X, Closed n X → Under n X c → Under n X D
def Dead (n : Nat) (c : Mat) : Prop := ∀ X, Closed n X → ¬ Under n X c
theorem IsClosure.unique {n c D E} (h : IsClosure n c D) (h' : IsClosure n c E) : ∀ i j, i ≤ n → j ≤ n → D i j = E i j := fun i j hi hj =>
  Int.le_antisymm (h'.2.2 D h.1 h.2.1 i j hi hj) (h.2.2 E h'.1 h'.2.1 i j hi hj)
theorem IsClosure.not_dead {n c D} (h : IsClosure n c D) : ¬ Dead n c := fun hd => hd D h.1 h.2.1
/-- Within the range's own bounds: a matrix cut to them. -/
def clip (m : Mat) : Mat := fun i j => max (min (m i j) (far i j)) B
theorem far_le (i j : Nat) : 0 ≤ far i j ∧ far i j ≤ 2199023255552 := by unfold far; split <;> (try split) <;> (try split) <;> omega
theorem far_self (i : Nat) : far i i = 0 := by simp [far]
theorem clip_range (m : Mat) (i j : Nat) : B ≤ clip m i j ∧ clip m i j ≤ far i j := by
  have := far_le i j
  unfold clip B; omega
/-- What is closed and below the range's bounds is above all that is cut. -/
theorem Closed.above {n X c} (h : Closed n X) (hu : Under n X c) (hc : ∀ i j, c i j ≤ far i j) {i j} (hi : i ≤ n) (hj : j ≤ n) : -2199023255552 ≤ X i j := by
  have h1 := h.1 i i j hi hi hj
  have h2 := h.2 i hi
  have h3 := hu j i hj hi
  have h4 := hc j i
  have := far_le j i
  omega
theorem Closed.diag {n X c} (h : Closed n X) (hu : Under n X c) (hc : ∀ i j, c i j ≤ far i j) {i} (hi : i ≤ n) : X i i = 0 := by
  have h1 := h.2 i hi
  have h2 := hu i i hi hi
  have h3 := hc i i
  rw [far_self] at h3
  omega
def G (k : Nat) (x : Mat) : Mat := fun i j => max (min (x i j) (x i k + x k j)) B
structure Inv (n : Nat) (c d : Mat) : Prop where
  lo : ∀ i j, i ≤ n → j ≤ n → B ≤ d i j
  hi : ∀ i j, i ≤ n → j ≤ n → d i j ≤ c i j
  gr : ∀ X, Closed n X → Under n X c → Under n X d
theorem Inv.start {n c} (hb : ∀ i j, B ≤ c i j) : Inv n c c := ⟨fun i j _ _ => hb i j, fun _ _ _ _ => Int.le_refl _, fun _ _ h => h⟩
theorem Inv.step {n c d d'} (h : Inv n c d) {k : Nat} (hk : k ≤ n) (hs : ∀ i j, i ≤ n → j ≤ n → d' i j = d i j ∨ d' i j = G k d i j) : Inv n c d' := by
  refine ⟨fun i j hi hj => ?_, fun i j hi hj => ?_, fun X hX hu i j hi hj => ?_⟩
  · have := h.lo i j hi hj
    rcases hs i j hi hj with e | e <;> rw [e] <;> (try simp only [G]) <;> (try unfold B at *) <;> omega
  · have := h.lo i j hi hj
    have := h.hi i j hi hj
    rcases hs i j hi hj with e | e <;> rw [e] <;> (try simp only [G]) <;> (try unfold B at *) <;> omega
  · have h1 := h.gr X hX hu i j hi hj
    have h2 := h.gr X hX hu i k hi hk
    have h3 := h.gr X hX hu k j hk hj
    have h4 := hX.1 i j k hi hj hk
    rcases hs i j hi hj with e | e <;> rw [e] <;> (try simp only [G]) <;> (try unfold B at *) <;> omega
theorem step_le {n c d d'} (h : Inv n c d) {k : Nat} (hs : ∀ i j, i ≤ n → j ≤ n → d' i j = d i j ∨ d' i j = G k d i j) : Under n d' d := by
  intro i j hi hj
  have := h.lo i j hi hj
  rcases hs i j hi hj with e | e <;> rw [e] <;> (try simp only [G]) <;> (try unfold B at *) <;> omega
/-- With 0 at k, row and column k stay. -/
theorem G_row {n c d k} (h : Inv n c d) (hk : k ≤ n) (h0 : d k k = 0) {j} (hj : j ≤ n) : G k d k j = d k j ∧ G k d j k = d j k := by
  have := h.lo k j hk hj
  have := h.lo j k hj hk
  unfold G; omega
def Thru (n K : Nat) (d : Mat) : Prop := ∀ k i j, k < K → k ≤ n → i ≤ n → j ≤ n → d i j ≤ max B (d i k + d k j)
/-- One round more: K, too, is gone through. -/
theorem Thru.step {n c d d'} {K : Nat} (hi : Inv n c d) (hc : ∀ i j, c i j ≤ far i j) (hK : K ≤ n) (h : Thru n K d) (h0 : d K K = 0) (hs : ∀ i j, i ≤ n → j ≤ n → d' i j = G K d i j) (hd : ∀ i, i ≤ n → 0 ≤ d' i i) : Thru n (K + 1) d' := by
  have hpos : ∀ i, i ≤ n → B < d i K ∧ B < d K i := by
    intro i hin
    have h1 := hd i hin
    rw [hs i i hin hin] at h1
    have h2 : 0 ≤ d i K + d K i := by unfold G B at h1; omega
    have h3 := hi.hi i K hin hK
    have h4 := hi.hi K i hK hin
    have h5 := hc i K
    have h6 := hc K i
    have := far_le i K
    have := far_le K i
    unfold B; omega
  intro k i j hkK hk hin hj
  rw [hs i j hin hj, hs i k hin hk, hs k j hk hj]
  rcases Nat.lt_or_ge k K with hlt | hge
  · have a1 := h k i j hlt hk hin hj
    have a2 := h k i K hlt hk hin hK
    have a3 := h k K j hlt hk hK hj
    have a4 := h k K K hlt hk hK hK
    have b1 := hpos i hin
    have b2 := hpos j hj
    have b3 := hpos k hk
    rw [h0] at a4
    unfold G B at *; omega
  · have : k = K := by omega
    subst this
    have b1 := hpos i hin
    have b2 := hpos j hj
    unfold G B at *; omega
/-- All gone through, and 0 from each to itself: closed. -/
theorem Thru.closed {n c d} (hi : Inv n c d) (hc : ∀ i j, c i j ≤ far i j) (h : Thru n (n + 1) d) (hd : ∀ i, i ≤ n → 0 ≤ d i i) : IsClosure n c d := by
  have lo : ∀ i j, i ≤ n → j ≤ n → B < d i j := by
    intro i j hin hj
    have h1 := h j i i (by omega) hj hin hin
    have h2 := hd i hin
    have h3 := hi.hi j i hj hin
    have h4 := hc j i
    have := far_le j i
    unfold B at *; omega
  refine ⟨⟨fun i j k hin hj hk => ?_, hd⟩, hi.hi, hi.gr⟩
  have h1 := h k i j (by omega) hk hin hj
  have h2 := lo i j hin hj
  omega
def IsTwice (n : Nat) (x y : Mat) : Prop := ∀ i j, i ≤ n → j ≤ n → y i j ≤ x i j ∧ (∀ k, k ≤ n → y i j ≤ x i k + x k j) ∧ (y i j = x i j ∨ ∃ k, k ≤ n ∧ y i j = x i k + x k j)
def wk (c : Mat) (i : Nat) : List Nat → Nat → Int
  | [], j => c i j
  | v :: l, j => c i v + wk c v l j
theorem wk_append (c : Mat) : ∀ (i : Nat) (l : List Nat) (k : Nat) (l' : List Nat) (j : Nat), wk c i (l ++ k :: l') j = wk c i l k + wk c k l' j
  | i, [], k, l', j => by simp [wk]
  | i, v :: l, k, l', j => by simp only [List.cons_append, wk, wk_append c v l k l' j]; omega
def Att (n : Nat) (c x : Mat) : Prop := ∀ i j, i ≤ n → j ≤ n → ∃ l : List Nat, (∀ v ∈ l, v ≤ n) ∧ x i j = wk c i l j
def Lower (n : Nat) (c x : Mat) (t : Nat) : Prop := ∀ (l : List Nat) (i j : Nat), i ≤ n → j ≤ n → (∀ v ∈ l, v ≤ n) → l.length + 1 ≤ t → x i j ≤ wk c i l j
theorem Att.start {n c} : Att n c c := fun i j _ _ => ⟨[], by simp, rfl⟩
theorem Lower.start {n c} : Lower n c c 1 := fun l i j _ _ _ h => by
  have : l = [] := List.eq_nil_of_length_eq_zero (by omega)
  subst this; exact Int.le_refl _
theorem Att.step {n c x y} (h : Att n c x) (ht : IsTwice n x y) : Att n c y := by
  intro i j hi hj
  rcases (ht i j hi hj).2.2 with e | ⟨k, hk, e⟩
  · rw [e]; exact h i j hi hj
  · obtain ⟨l, hl, el⟩ := h i k hi hk
    obtain ⟨l', hl', el'⟩ := h k j hk hj
    refine ⟨l ++ k :: l', fun v hv => ?_, by rw [e, el, el', wk_append]⟩
    rcases List.mem_append.1 hv with hv | hv
    · exact hl v hv
    · rcases List.mem_cons.1 hv with rfl | hv
      · exact hk
      · exact hl' v hv
theorem Lower.step {n c x y t} (h : Lower n c x t) (ht0 : 0 < t) (ht : IsTwice n x y) : Lower n c y (2 * t) := by
  intro l i j hi hj hl hlen
  rcases Nat.lt_or_ge l.length t with hlt | hge
  · exact Int.le_trans (ht i j hi hj).1 (h l i j hi hj hl hlt)
  · have hd : l = l.take (t - 1) ++ l[t - 1] :: l.drop t := by
      have h1 := (List.take_append_drop (t - 1) l).symm
      rw [List.drop_eq_getElem_cons (by omega : t - 1 < l.length)] at h1
      rw [show t - 1 + 1 = t by omega] at h1
      exact h1
    have hk : l[t - 1] ≤ n := hl _ (List.getElem_mem _)
    have h1 := (ht i j hi hj).2.1 (l[t - 1]) hk
    have h2 := h (l.take (t - 1)) i (l[t - 1]) hi hk (fun v hv => hl v (List.mem_of_mem_take hv)) (by rw [List.length_take]; omega)
    have h3 := h (l.drop t) (l[t - 1]) j hk hj (fun v hv => hl v (List.mem_of_mem_drop hv)) (by rw [List.length_drop]; omega)
    rw [hd, wk_append]
    omega
theorem dup {l : List Nat} (h : ¬ l.Nodup) : ∃ a v b e, l = a ++ v :: (b ++ v :: e) := by
  induction l with
  | nil => exact absurd List.nodup_nil h
  | cons x t ih =>
    by_cases hx : x ∈ t
    · obtain ⟨b, e, he⟩ := List.append_of_mem hx
      exact ⟨[], x, b, e, by rw [he]; rfl⟩
    · have : ¬ t.Nodup := fun ht => h (List.nodup_cons.2 ⟨hx, ht⟩)
      obtain ⟨a, v, b, e, he⟩ := ih this
      exact ⟨x :: a, v, b, e, by rw [he]; rfl⟩
theorem nodup_len : ∀ (n : Nat) (l : List Nat), l.Nodup → (∀ v ∈ l, v < n) → l.length ≤ n
  | 0, l, _, hl => by
    cases l with
    | nil => simp
    | cons a t => exact absurd (hl a (List.mem_cons_self ..)) (by omega)
  | n + 1, l, hn, hl => by
    have h1 := nodup_len n (l.erase n) (hn.erase n) (fun v hv => by
      have h2 := (List.Nodup.mem_erase_iff hn).1 hv
      have := hl v h2.2
      omega)
    rw [List.length_erase] at h1
    split at h1 <;> omega
theorem shorten {n c x t} (hlow : Lower n c x t) (ht : n + 2 ≤ t) (hd : ∀ i, i ≤ n → 0 ≤ x i i) : ∀ (m : Nat) (l : List Nat) (i j : Nat), l.length ≤ m → i ≤ n → j ≤ n → (∀ v ∈ l, v ≤ n) → ∃ l' : List Nat, l'.length ≤ n + 1 ∧ (∀ v ∈ l', v ≤ n) ∧ wk c i l' j ≤ wk c i l j
  | 0, l, i, j, h, _, _, hl => ⟨l, by omega, hl, Int.le_refl _⟩
  | m + 1, l, i, j, h, hi, hj, hl => by
    by_cases hn : l.Nodup
    · exact ⟨l, nodup_len (n + 1) l hn (fun v hv => by have := hl v hv; omega), hl, Int.le_refl _⟩
    · obtain ⟨a, v, b, e, rfl⟩ := dup hn
      have hv : v ≤ n := hl v (by simp)
      have hb : ∀ u ∈ b, u ≤ n := fun u hu => hl u (by simp [hu])
      simp only [List.length_append, List.length_cons] at h
      obtain ⟨b', l1, l2, l3⟩ := shorten hlow ht hd m b v v (by omega) hv hv hb
      have h0 := hlow b' v v hv hv l2 (by omega)
      have h1 := hd v hv
      obtain ⟨l', q1, q2, q3⟩ := shorten hlow ht hd m (a ++ v :: e) i j (by simp only [List.length_append, List.length_cons]; omega) hi hj (fun u hu => hl u (by
        rcases List.mem_append.1 hu with hu | hu
        · simp [hu]
        · rcases List.mem_cons.1 hu with rfl | hu <;> simp [*]))
      refine ⟨l', q1, q2, Int.le_trans q3 ?_⟩
      rw [wk_append, wk_append, wk_append]
      omega
theorem Att.closed {n c x t} (ha : Att n c x) (hlow : Lower n c x t) (ht : n + 2 ≤ t) (hle : Under n x c) (hd : ∀ i, i ≤ n → 0 ≤ x i i) (hg : ∀ X, Closed n X → Under n X c → Under n X x) : IsClosure n c x := by
  refine ⟨⟨fun i j k hi hj hk => ?_, hd⟩, hle, hg⟩
  obtain ⟨l, hl, el⟩ := ha i k hi hk
  obtain ⟨l', hl', el'⟩ := ha k j hk hj
  obtain ⟨l'', s1, s2, s3⟩ := shorten hlow ht hd (l ++ k :: l').length (l ++ k :: l') i j (Nat.le_refl _) hi hj (fun v hv => by
    rcases List.mem_append.1 hv with hv | hv
    · exact hl v hv
    · rcases List.mem_cons.1 hv with rfl | hv
      · exact hk
      · exact hl' v hv)
  have h1 := hlow l'' i j hi hj s2 (by omega)
  rw [wk_append] at s3
  omega
theorem IsTwice.greater {n c x y} (ht : IsTwice n x y) (h : ∀ X, Closed n X → Under n X c → Under n X x) : ∀ X, Closed n X → Under n X c → Under n X y := by
  intro X hX hu i j hi hj
  rcases (ht i j hi hj).2.2 with e | ⟨k, hk, e⟩
  · rw [e]; exact h X hX hu i j hi hj
  · rw [e]
    have h1 := h X hX hu i k hi hk
    have h2 := h X hX hu k j hk hj
    have h3 := hX.1 i j k hi hj hk
    omega
theorem IsTwice.under {n c x y} (ht : IsTwice n x y) (h : Under n x c) : Under n y c := fun i j hi hj => Int.le_trans (ht i j hi hj).1 (h i j hi hj)
theorem IsTwice.closed {n x y} (hx : Closed n x) (ht : IsTwice n x y) : ∀ i j, i ≤ n → j ≤ n → y i j = x i j := by
  intro i j hi hj
  rcases (ht i j hi hj).2.2 with e | ⟨k, hk, e⟩
  · exact e
  · have h1 := hx.1 i j k hi hj hk
    have h2 := (ht i j hi hj).1
    omega
end Go.Proofs.Ytgeemdpflcefkaa.DbmMath
/- chapter 08: what the program's own closing of a matrix tells (pure words of the walk against the plain law) -/
namespace Go.Proofs.Ytgeemdpflcefkaa.DbmEv
open Go.RowKit Go.Proofs.Ytgeemdpflcefkaa.Y Go.Proofs.YtgeemdpflcefkaaW.PrintWords Go.Proofs.YtgeemdpflcefkaaW.PrintLast Go.Proofs.Ytgeemdpflcefkaa.DbmMath
def Ev {α : Type} (g : Nat → Option α) (r : α) : Prop := ∃ k0, ∀ k, k0 ≤ k → g k = some r
theorem Ev.const {α} {a : Option α} {r : α} (h : a = some r) : Ev (fun _ => a) r := ⟨0, fun _ _ => h⟩
theorem Ev.bind {α β} {g : Nat → Option α} {h : Nat → α → Option β} {a : α} {r : β} (hg : Ev g a) (hh : Ev (fun k => h k a) r) : Ev (fun k => (g k).bind (h k)) r := by
  obtain ⟨k1, h1⟩ := hg
  obtain ⟨k2, h2⟩ := hh
  refine ⟨max k1 k2, fun k hk => ?_⟩
  simp only [h1 k (by omega), Option.bind_some]
  exact h2 k (by omega)
theorem Ev.succ {α} {g b : Nat → Option α} {r : α} (h : ∀ k, g (k + 1) = b k) (hb : Ev b r) : Ev g r := by
  obtain ⟨k0, h0⟩ := hb
  refine ⟨k0 + 1, fun k hk => ?_⟩
  obtain ⟨j, rfl⟩ : ∃ j, k = j + 1 := ⟨k - 1, by omega⟩
  rw [h]
  exact h0 j (by omega)
theorem Ev.get {α} {g : Nat → Option α} {r : α} (h : Ev g r) : ∃ k, g k = some r := by
  obtain ⟨k0, h0⟩ := h
  exact ⟨k0, h0 k0 (Nat.le_refl _)⟩
theorem Ev.unique {α} {g : Nat → Option α} {r s : α} (h : Ev g r) (h' : Ev g s) : r = s := by
  obtain ⟨k1, h1⟩ := h
  obtain ⟨k2, h2⟩ := h'
  have := (h1 (max k1 k2) (by omega)).symm.trans (h2 (max k1 k2) (by omega))
  exact Option.some.inj this
theorem w64 {x : Int} (h : -9223372036854775808 ≤ x) (h' : x ≤ 9223372036854775807) : wrap64 x = x := by unfold wrap64; omega
def at_ (n : Nat) (xs : List Int) (i j : Nat) : Int := rd xs ((i * (n + 1) + j : Nat) : Int)
theorem rd_nat (xs : List Int) (p : Nat) : rd xs (p : Int) = xs.getD p 0 := rfl
theorem rd_at (n : Nat) (xs : List Int) (i j : Nat) : rd xs ((i : Int) * ((n : Int) + 1) + (j : Int)) = at_ n xs i j := by
  unfold at_
  have : ((i : Int) * ((n : Int) + 1) + (j : Int)) = ((i * (n + 1) + j : Nat) : Int) := by simp only [Int.natCast_add, Int.natCast_mul, Int.natCast_one]
  rw [this]
theorem place_inj {n i j i' j' : Nat} (hj : j ≤ n) (hj' : j' ≤ n) (h : i * (n + 1) + j = i' * (n + 1) + j') : i = i' ∧ j = j' := by
  have h1 : (i * (n + 1) + j) / (n + 1) = i := by
    rw [Nat.add_comm, Nat.mul_comm, Nat.add_mul_div_left _ _ (Nat.succ_pos n), Nat.div_eq_of_lt (by omega), Nat.zero_add]
  have h2 : (i' * (n + 1) + j') / (n + 1) = i' := by
    rw [Nat.add_comm, Nat.mul_comm, Nat.add_mul_div_left _ _ (Nat.succ_pos n), Nat.div_eq_of_lt (by omega), Nat.zero_add]
  have : i = i' := by rw [← h1, ← h2, h]
  subst this
  exact ⟨rfl, by omega⟩
theorem place_split (n p : Nat) (hp : p < (n + 1) * (n + 1)) : ∃ i j, i ≤ n ∧ j ≤ n ∧ p = i * (n + 1) + j := by
  refine ⟨p / (n + 1), p % (n + 1), ?_, ?_, ?_⟩
  · exact Nat.lt_succ_iff.1 ((Nat.div_lt_iff_lt_mul (Nat.succ_pos n)).2 hp)
  · exact Nat.lt_succ_iff.1 (Nat.mod_lt p (Nat.succ_pos n))
  · have := Nat.div_add_mod p (n + 1)
    rw [Nat.mul_comm]; exact this.symm
theorem at_set {n : Nat} {xs : List Int} {i j i' j' : Nat} (hl : xs.length = (n + 1) * (n + 1)) (hi : i ≤ n) (hj : j ≤ n) (hi' : i' ≤ n) (hj' : j' ≤ n) (v : Int) :
    at_ n (xs.set (i * (n + 1) + j) v) i' j' = if i' = i ∧ j' = j then v else at_ n xs i' j' := by
  unfold at_
  simp only [rd_nat, List.getD_eq_getElem?_getD]
  have hlt := place_lt hi hj
  by_cases h : i' = i ∧ j' = j
  · obtain ⟨rfl, rfl⟩ := h
    rw [List.getElem?_set_self (by omega)]
    simp
  · rw [if_neg h, List.getElem?_set_ne]
    intro he
    have := place_inj hj hj' he
    exact h ⟨this.1.symm, this.2.symm⟩
theorem list_eq {n : Nat} {xs ys : List Int} (hx : xs.length = (n + 1) * (n + 1)) (hy : ys.length = (n + 1) * (n + 1)) (h : ∀ i j, i ≤ n → j ≤ n → at_ n xs i j = at_ n ys i j) : xs = ys := by
  apply List.ext_getElem (by omega)
  intro p h1 h2
  obtain ⟨i, j, hi, hj, rfl⟩ := place_split n p (by omega)
  have := h i j hi hj
  unfold at_ at this
  simp only [rd_nat, List.getD_eq_getElem?_getD, List.getElem?_eq_getElem h1, List.getElem?_eq_getElem h2, Option.getD_some] at this
  exact this
theorem eachTo_spec {F : List Int → Int → Int → Int} {n : Nat} {xs : List Int} {G : Mat} (hl : xs.length = (n + 1) * (n + 1))
    (hF : ∀ (ys : List Int) (i j : Nat), ys.length = (n + 1) * (n + 1) → i ≤ n → j ≤ n → (∀ a b, a ≤ n → b ≤ n → at_ n ys a b = if a * (n + 1) + b < i * (n + 1) + j then G a b else at_ n xs a b) → F ys i j = G i j) :
    ∀ p, p ≤ (n + 1) * (n + 1) → ∀ a b, a ≤ n → b ≤ n → at_ n (eachTo F n xs p) a b = if a * (n + 1) + b < p then G a b else at_ n xs a b
  | 0, _, a, b, _, _ => by simp [eachTo]
  | p + 1, hp, a, b, ha, hb => by
    have ih := eachTo_spec hl hF p (by omega)
    obtain ⟨i, j, hi, hj, rfl⟩ := place_split n p (by omega)
    rw [eachTo_at F n xs i j hj, at_set (by rw [eachTo_length]; exact hl) hi hj ha hb, hF _ i j (by rw [eachTo_length]; exact hl) hi hj ih]
    by_cases h : a = i ∧ b = j
    · obtain ⟨rfl, rfl⟩ := h
      rw [if_pos ⟨rfl, rfl⟩, if_pos (by omega)]
    · rw [if_neg h, ih a b ha hb]
      have hne : a * (n + 1) + b ≠ i * (n + 1) + j := fun he => h (place_inj hb hj he)
      by_cases h2 : a * (n + 1) + b < i * (n + 1) + j
      · rw [if_pos h2, if_pos (by omega)]
      · rw [if_neg h2, if_neg (by omega)]
theorem eachTo_all {F : List Int → Int → Int → Int} {n : Nat} {xs : List Int} {G : Mat} (hl : xs.length = (n + 1) * (n + 1))
    (hF : ∀ (ys : List Int) (i j : Nat), ys.length = (n + 1) * (n + 1) → i ≤ n → j ≤ n → (∀ a b, a ≤ n → b ≤ n → at_ n ys a b = if a * (n + 1) + b < i * (n + 1) + j then G a b else at_ n xs a b) → F ys i j = G i j)
    {a b : Nat} (ha : a ≤ n) (hb : b ≤ n) : at_ n (eachTo F n xs ((n + 1) * (n + 1))) a b = G a b := by
  rw [eachTo_spec hl hF _ (Nat.le_refl _) a b ha hb, if_pos (place_lt ha hb)]
theorem eachTo_inv {F : List Int → Int → Int → Int} {n : Nat} {P : List Int → Prop} (hP : ∀ (ys : List Int) (i j : Nat), i ≤ n → j ≤ n → P ys → P (ys.set (i * (n + 1) + j) (F ys i j))) {xs : List Int} (h0 : P xs) :
    ∀ p, p ≤ (n + 1) * (n + 1) → P (eachTo F n xs p)
  | 0, _ => h0
  | p + 1, hp => by
    have ih := eachTo_inv hP h0 p (by omega)
    obtain ⟨i, j, hi, hj, rfl⟩ := place_split n p (by omega)
    rw [eachTo_at F n xs i j hj]
    exact hP _ i j hi hj ih
theorem mx_eq (a b : Int) : mx a b = max a b := by unfold mx; split <;> omega
theorem mn_eq (a b : Int) : mn a b = min a b := by unfold mn; split <;> omega
theorem mostF_eq (i j : Nat) : mostF (i : Int) (j : Int) = far i j := by
  unfold mostF far
  by_cases h1 : i = j <;> by_cases h2 : i = 0 <;> by_cases h3 : j = 0 <;> simp_all <;> omega
theorem F1_eq (n : Nat) (ys : List Int) (i j : Nat) : F1 n ys i j = clip (at_ n ys) i j := by
  unfold F1 clip
  rw [mx_eq, mn_eq, rd_at, mostF_eq]; rfl
theorem F2_eq {n k : Nat} {ys : List Int} {c : Mat} (h : Inv n c (at_ n ys)) (hc : ∀ i j, c i j ≤ far i j) (hk : k ≤ n) {i j : Nat} (hi : i ≤ n) (hj : j ≤ n) : F2 n k ys i j = G k (at_ n ys) i j := by
  unfold F2 G
  rw [mx_eq, mn_eq, rd_at, rd_at, rd_at]
  have h1 := h.lo i k hi hk
  have h2 := h.lo k j hk hj
  have h3 := Int.le_trans (h.hi i k hi hk) (hc i k)
  have h4 := Int.le_trans (h.hi k j hk hj) (hc k j)
  have := far_le i k
  have := far_le k j
  rw [w64 (by unfold B at *; omega) (by omega)]
  rfl
/-- The matrix that is closed: cut. -/
def cut (n : Nat) (xs : List Int) : Mat := clip (at_ n xs)
theorem cut_le (n : Nat) (xs : List Int) (i j : Nat) : cut n xs i j ≤ far i j := (clip_range _ i j).2
theorem closeTo_zero {n : Nat} {xs : List Int} (hl : xs.length = (n + 1) * (n + 1)) {a b : Nat} (ha : a ≤ n) (hb : b ≤ n) : at_ n (closeTo n xs 0) a b = cut n xs a b := by
  rw [closeTo]
  refine eachTo_all (G := cut n xs) hl (fun ys i j _ hi hj h => ?_) ha hb
  rw [F1_eq]
  unfold cut clip
  rw [h i j hi hj, if_neg (by omega)]
theorem inv_congr {n c d d'} (h : Inv n c d) (e : ∀ i j, i ≤ n → j ≤ n → d' i j = d i j) : Inv n c d' :=
  ⟨fun i j hi hj => by rw [e i j hi hj]; exact h.lo i j hi hj, fun i j hi hj => by rw [e i j hi hj]; exact h.hi i j hi hj, fun X a b i j hi hj => by rw [e i j hi hj]; exact h.gr X a b i j hi hj⟩
theorem closeTo_inv {n : Nat} {xs : List Int} (hl : xs.length = (n + 1) * (n + 1)) : ∀ k, k ≤ n + 1 → Inv n (cut n xs) (at_ n (closeTo n xs k))
  | 0, _ => inv_congr (Inv.start fun i j => (clip_range (at_ n xs) i j).1) fun i j hi hj => closeTo_zero hl hi hj
  | k + 1, hk => by
    have ih := closeTo_inv hl k (by omega)
    rw [closeTo]
    refine (eachTo_inv (P := fun ys => ys.length = (n + 1) * (n + 1) ∧ Inv n (cut n xs) (at_ n ys)) (fun ys i j hi hj hP => ⟨by rw [List.length_set]; exact hP.1, ?_⟩) ⟨by rw [closeTo_length]; exact hl, ih⟩ _ (Nat.le_refl _)).2
    refine hP.2.step (k := k) (by omega) (fun a b ha hb => ?_)
    rw [at_set hP.1 hi hj ha hb, F2_eq hP.2 (cut_le n xs) (by omega) hi hj]
    by_cases h : a = i ∧ b = j
    · obtain ⟨rfl, rfl⟩ := h
      right; rw [if_pos ⟨rfl, rfl⟩]
    · left; rw [if_neg h]
theorem closeTo_down {n : Nat} {xs : List Int} (hl : xs.length = (n + 1) * (n + 1)) {k : Nat} (hk : k ≤ n) : Under n (at_ n (closeTo n xs (k + 1))) (at_ n (closeTo n xs k)) := by
  have ih := closeTo_inv hl k (by omega)
  rw [closeTo]
  refine (eachTo_inv (P := fun ys => ys.length = (n + 1) * (n + 1) ∧ Inv n (cut n xs) (at_ n ys) ∧ Under n (at_ n ys) (at_ n (closeTo n xs k))) (fun ys i j hi hj hP => ?_) ⟨by rw [closeTo_length]; exact hl, ih, fun _ _ _ _ => Int.le_refl _⟩ _ (Nat.le_refl _)).2.2
  have hs : ∀ a b, a ≤ n → b ≤ n → at_ n (ys.set (i * (n + 1) + j) (F2 n k ys i j)) a b = at_ n ys a b ∨ at_ n (ys.set (i * (n + 1) + j) (F2 n k ys i j)) a b = G k (at_ n ys) a b := by
    intro a b ha hb
    rw [at_set hP.1 hi hj ha hb, F2_eq hP.2.1 (cut_le n xs) (by omega) hi hj]
    by_cases h : a = i ∧ b = j
    · obtain ⟨rfl, rfl⟩ := h
      right; rw [if_pos ⟨rfl, rfl⟩]
    · left; rw [if_neg h]
  exact ⟨by rw [List.length_set]; exact hP.1, hP.2.1.step hk hs, fun a b ha hb => Int.le_trans (step_le hP.2.1 hs a b ha hb) (hP.2.2 a b ha hb)⟩
theorem closeTo_down_to {n : Nat} {xs : List Int} (hl : xs.length = (n + 1) * (n + 1)) {k : Nat} : ∀ m, k + m ≤ n + 1 → Under n (at_ n (closeTo n xs (k + m))) (at_ n (closeTo n xs k))
  | 0, _ => fun _ _ _ _ => Int.le_refl _
  | m + 1, h => fun a b ha hb => Int.le_trans (closeTo_down hl (k := k + m) (by omega) a b ha hb) (closeTo_down_to hl m (by omega) a b ha hb)
theorem closeTo_diag {n : Nat} {xs : List Int} (hl : xs.length = (n + 1) * (n + 1)) (hd : ∀ i, i ≤ n → 0 ≤ at_ n (closeTo n xs (n + 1)) i i) {k : Nat} (hk : k ≤ n + 1) {i : Nat} (hi : i ≤ n) : at_ n (closeTo n xs k) i i = 0 := by
  have h1 := closeTo_down_to hl (k := k) (n + 1 - k) (by omega) i i hi hi
  rw [show k + (n + 1 - k) = n + 1 by omega] at h1
  have h2 := hd i hi
  have h3 := (closeTo_inv hl k hk).hi i i hi hi
  have h4 := cut_le n xs i i
  rw [far_self] at h4
  omega
theorem closeTo_round {n : Nat} {xs : List Int} (hl : xs.length = (n + 1) * (n + 1)) (hd : ∀ i, i ≤ n → 0 ≤ at_ n (closeTo n xs (n + 1)) i i) {k : Nat} (hk : k ≤ n) {a b : Nat} (ha : a ≤ n) (hb : b ≤ n) : at_ n (closeTo n xs (k + 1)) a b = G k (at_ n (closeTo n xs k)) a b := by
  have hI := closeTo_inv hl k (by omega)
  have h0 := closeTo_diag hl hd (k := k) (by omega) hk
  have hlen : (closeTo n xs k).length = (n + 1) * (n + 1) := by rw [closeTo_length]; exact hl
  rw [closeTo]
  refine eachTo_all (G := G k (at_ n (closeTo n xs k))) hlen (fun ys i j hys hi hj h => ?_) ha hb
  have hIy : Inv n (cut n xs) (at_ n ys) := hI.step (k := k) hk (fun a b ha hb => by
    rw [h a b ha hb]
    split
    · exact Or.inr rfl
    · exact Or.inl rfl)
  rw [F2_eq hIy (cut_le n xs) hk hi hj]
  have e1 : at_ n ys i j = at_ n (closeTo n xs k) i j := by rw [h i j hi hj, if_neg (by omega)]
  have e2 : at_ n ys i k = at_ n (closeTo n xs k) i k := by
    rw [h i k hi hk]
    split
    · exact (G_row hI hk h0 hi).2
    · rfl
  have e3 : at_ n ys k j = at_ n (closeTo n xs k) k j := by
    rw [h k j hk hj]
    split
    · exact (G_row hI hk h0 hj).1
    · rfl
  unfold G
  rw [e1, e2, e3]
theorem closeTo_thru {n : Nat} {xs : List Int} (hl : xs.length = (n + 1) * (n + 1)) (hd : ∀ i, i ≤ n → 0 ≤ at_ n (closeTo n xs (n + 1)) i i) : ∀ k, k ≤ n + 1 → Thru n k (at_ n (closeTo n xs k))
  | 0, _ => fun k _ _ h => absurd h (by omega)
  | k + 1, hk => (closeTo_thru hl hd k (by omega)).step (closeTo_inv hl k (by omega)) (cut_le n xs) (by omega) (closeTo_diag hl hd (by omega) (by omega)) (fun i j hi hj => closeTo_round hl hd (by omega) hi hj) (fun i hi => by rw [closeTo_diag hl hd hk hi]; exact Int.le_refl _)
theorem closeOk_iff (n : Nat) (xs : List Int) : closeOk n xs = true ↔ ∀ i, i ≤ n → 0 ≤ at_ n (closeTo n xs (n + 1)) i i := by
  unfold closeOk
  rw [List.all_eq_true]
  constructor
  · intro h i hi
    have := h i (List.mem_range.2 (by omega))
    unfold at_
    simpa using this
  · intro h i hi
    have := h i (by have := List.mem_range.1 hi; omega)
    unfold at_ at this
    simpa using this
/-- What the program's closing tells: the closure, or that there is none. -/
theorem prog_close {n : Nat} {xs : List Int} (hl : xs.length = (n + 1) * (n + 1)) :
    (closeOk n xs = true ∧ IsClosure n (cut n xs) (at_ n (closeTo n xs (n + 1)))) ∨ (closeOk n xs = false ∧ Dead n (cut n xs)) := by
  by_cases h : closeOk n xs = true
  · refine Or.inl ⟨h, ?_⟩
    have hd := (closeOk_iff n xs).1 h
    exact (closeTo_thru hl hd (n + 1) (Nat.le_refl _)).closed (closeTo_inv hl _ (Nat.le_refl _)) (cut_le n xs) hd
  · refine Or.inr ⟨by simpa using h, fun X hX hu => h ((closeOk_iff n xs).2 fun i hi => ?_)⟩
    exact Int.le_trans (hX.2 i hi) ((closeTo_inv hl _ (Nat.le_refl _)).gr X hX hu i i hi hi)
end Go.Proofs.Ytgeemdpflcefkaa.DbmEv
/- chapter 08: what the program's functions tell, in plain words -/
namespace Go.Proofs.Ytgeemdpflcefkaa.DbmEv
open Go.RowKit Go.Proofs.Ytgeemdpflcefkaa.Y Go.Proofs.YtgeemdpflcefkaaW.PrintWords Go.Proofs.YtgeemdpflcefkaaW.PrintLast Go.Proofs.Ytgeemdpflcefkaa.DbmMath
theorem Ev.ofMono {α} {g : Nat → Option α} {r : α} (hm : ∀ k, LeO (g k) (g (k + 1))) {K : Nat} (h : g K = some r) : Ev g r :=
  ⟨K, fun k hk => by
    obtain ⟨m, rfl⟩ : ∃ m, k = K + m := ⟨k - K, by omega⟩
    clear hk
    induction m with
    | zero => exact h
    | succ m ih => exact hm _ _ ih⟩
/-- A loop that asks one after the other, and ends at the first no. -/
theorem Ev.loopAll {l : Nat → Nat → Option Bool} {P : Nat → Bool} {rest : Bool} {N : Nat} (hend : Ev (fun k => l k N) rest)
    (hgo : ∀ i s, i < N → P i = true → Ev (fun k => l k (i + 1)) s → Ev (fun k => l k i) s) (hno : ∀ i, i < N → P i = false → Ev (fun k => l k i) false) :
    ∀ m i, i + m = N → Ev (fun k => l k i) ((List.range' i m).all P && rest)
  | 0, i, h => by
    have : i = N := by omega
    subst this
    simpa using hend
  | m + 1, i, h => by
    have ih := Ev.loopAll hend hgo hno m (i + 1) (by omega)
    rw [List.range'_succ, List.all_cons]
    cases hp : P i with
    | false => simpa using hno i (by omega) hp
    | true => simpa using hgo i _ (by omega) hp ih
theorem succ_nat (i : Nat) (h : i ≤ 4611686018427387904) : wrap64 ((i : Int) + 1) = ((i + 1 : Nat) : Int) := by rw [w64 (by omega) (by omega)]; omega
theorem rd_get {xs : List Int} {i : Nat} (h : i < xs.length) : rd xs (i : Int) = xs[i] := by
  rw [rd_nat, List.getD_eq_getElem?_getD, List.getElem?_eq_getElem h, Option.getD_some]
theorem equal_loop (xs ys : List Int) (hx : xs.length ≤ 4611686018427387904) (hl : xs.length = ys.length) : Ev (fun k => slices_Equal_int_int.l0 k xs ys (xs.length : Int) 0) (decide (xs = ys)) := by
  have h := Ev.loopAll (l := fun k i => slices_Equal_int_int.l0 k xs ys (xs.length : Int) (i : Int)) (P := fun i => decide (rd xs i = rd ys i)) (rest := true) (N := xs.length) ?_ ?_ ?_ xs.length 0 (by omega)
  · have e : ((List.range' 0 xs.length).all (fun i => decide (rd xs i = rd ys i)) && true) = decide (xs = ys) := by
      rw [Bool.and_true]
      apply Bool.eq_iff_iff.2
      rw [List.all_eq_true, decide_eq_true_eq]
      constructor
      · intro h
        apply List.ext_getElem hl
        intro i h1 h2
        have := h i (List.mem_range'_1.2 ⟨by omega, by omega⟩)
        rw [decide_eq_true_eq, rd_get h1, rd_get h2] at this
        exact this
      · rintro rfl i _
        simp
    rw [e] at h
    exact h
  · refine Ev.succ (fun k => by rw [slices_Equal_int_int.l0]) ?_
    simp only [if_neg (Int.lt_irrefl _)]
    exact Ev.const rfl
  · intro i s hi hp hs
    refine Ev.succ (fun k => by rw [slices_Equal_int_int.l0]) ?_
    simp only [if_pos (show (i : Int) < (xs.length : Int) by omega), if_pos (show (0 : Int) ≤ (i : Int) by omega), if_pos (show (i : Int) < (ys.length : Int) by omega), if_pos (of_decide_eq_true hp), succ_nat i (by omega)]
    exact hs
  · intro i hi hp
    refine Ev.succ (fun k => by rw [slices_Equal_int_int.l0]) ?_
    simp only [if_pos (show (i : Int) < (xs.length : Int) by omega), if_pos (show (0 : Int) ≤ (i : Int) by omega), if_pos (show (i : Int) < (ys.length : Int) by omega), if_neg (of_decide_eq_false hp)]
    exact Ev.const rfl
theorem ev_Same (a b : Int) (xs ys : List Int) (hx : xs.length ≤ 4611686018427387904) : Ev (fun k => dbm_Same.f k a xs b ys) (decide (a = b ∧ xs = ys)) := by
  unfold dbm_Same.f
  by_cases hab : a = b
  · simp only [if_pos hab, Option.bind_fun_some]
    unfold slices_Equal_int_int.f
    by_cases hl : xs.length = ys.length
    · simp only [if_pos (show (xs.length : Int) = (ys.length : Int) by omega)]
      simpa [hab] using equal_loop xs ys hx hl
    · simp only [if_neg (show ¬ (xs.length : Int) = (ys.length : Int) by omega)]
      refine Ev.const ?_
      have : ¬ xs = ys := fun h => hl (by rw [h])
      simp [this]
  · simp only [if_neg hab]
    exact Ev.const (by simp [hab])
def vars (a : Int) : Bool := decide (0 ≤ a ∧ a ≤ 8)
theorem vars_f (a : Int) : dbm_vars.f a = some (vars a) := by
  unfold dbm_vars.f vars
  split
  · next h => simp [show (0 : Int) ≤ a from h]
  · next h => simp [show ¬ (0 : Int) ≤ a from h]
def fits (a : Int) (xs : List Int) : Bool := vars a && decide (xs.length = (a.toNat + 1) * (a.toNat + 1))
theorem size_eq {a : Int} (h : vars a = true) : wrap64 ((wrap64 (a + 1)) * (wrap64 (a + 1))) = (((a.toNat + 1) * (a.toNat + 1) : Nat) : Int) := by
  have h2 := of_decide_eq_true h
  obtain ⟨n, rfl⟩ := Int.eq_ofNat_of_zero_le h2.1
  have hn : n ≤ 8 := by omega
  rw [w64 (x := (n : Int) + 1) (by omega) (by omega)]
  have e : ((n : Int) + 1) * ((n : Int) + 1) = (((n + 1) * (n + 1) : Nat) : Int) := by simp only [Int.natCast_mul, Int.natCast_add, Int.natCast_one]
  rw [e]
  have : (n + 1) * (n + 1) ≤ 9 * 9 := Nat.mul_le_mul (by omega) (by omega)
  rw [w64 (by omega) (by omega)]
  simp
def closeR (a : Int) (xs : List Int) : Int × List Int × Int :=
  if fits a xs = true then (a, if closeOk a.toNat xs = true then closeTo a.toNat xs (a.toNat + 1) else [], 0) else (0, [], 1)
theorem size_le {n : Nat} (h : n ≤ 8) : (n + 1) * (n + 1) ≤ 81 := Nat.mul_le_mul (by omega : n + 1 ≤ 9) (by omega : n + 1 ≤ 9)
theorem fits_n {a : Int} {xs : List Int} (h : fits a xs = true) : ∃ n : Nat, a = n ∧ n ≤ 8 ∧ xs.length = (n + 1) * (n + 1) := by
  unfold fits vars at h
  rw [Bool.and_eq_true, decide_eq_true_eq, decide_eq_true_eq] at h
  obtain ⟨⟨h1, h2⟩, h3⟩ := h
  obtain ⟨n, rfl⟩ := Int.eq_ofNat_of_zero_le h1
  exact ⟨n, rfl, by omega, by simpa using h3⟩
theorem fits_of {n : Nat} {xs : List Int} (hn : n ≤ 8) (hl : xs.length = (n + 1) * (n + 1)) : fits (n : Int) xs = true := by
  unfold fits vars
  rw [Bool.and_eq_true, decide_eq_true_eq, decide_eq_true_eq]
  exact ⟨⟨by omega, by omega⟩, by simpa using hl⟩
theorem ev_Close (a : Int) (xs : List Int) : Ev (fun k => dbm_Close.f k a xs) (closeR a xs) := by
  unfold dbm_Close.f
  simp only [vars_f, Option.bind_some]
  by_cases hv : vars a = true
  · simp only [if_pos hv, dbm_size.f, Option.bind_some, size_eq hv]
    refine Ev.succ (fun k => by rw [dbm_Close.j0]) ?_
    by_cases hl : xs.length = (a.toNat + 1) * (a.toNat + 1)
    · have hf : fits a xs = true := by unfold fits; simp [hv, hl]
      obtain ⟨n, rfl, hn, hln⟩ := fits_n hf
      have hs := size_le hn
      have e1 : ((xs.length : Int) != (((Int.toNat (n : Int) + 1) * (Int.toNat (n : Int) + 1) : Nat) : Int)) = false := by rw [bne_eq_false_iff_eq]; omega
      have e2 : slices_Clone_int_int.f xs = some xs := by unfold slices_Clone_int_int.f; simp; omega
      have e3 : dbm_grid_close.f (n : Int) xs = some (closeOk n xs, closeTo n xs (n + 1)) := by
        unfold dbm_grid_close.f
        rw [if_pos ⟨by omega, by omega, by simpa using hln⟩]; rfl
      simp only [e1, e2, e3, if_neg Bool.false_ne_true, Option.bind_some]
      unfold closeR
      rw [if_pos hf]
      by_cases hc : closeOk n xs = true
      · simp only [Int.toNat_natCast, if_pos hc]; exact Ev.const rfl
      · simp only [Int.toNat_natCast, if_neg hc]; exact Ev.const rfl
    · have e1 : ((xs.length : Int) != (((a.toNat + 1) * (a.toNat + 1) : Nat) : Int)) = true := by rw [bne_iff_ne]; omega
      simp only [e1, if_pos]
      unfold closeR fits
      simp only [hl, decide_false, Bool.and_false, if_neg Bool.false_ne_true]
      exact Ev.const rfl
  · simp only [if_neg hv]
    refine Ev.succ (fun k => by rw [dbm_Close.j0]) ?_
    simp only [if_pos]
    unfold closeR fits
    simp only [Bool.eq_false_iff.2 hv, Bool.false_and, if_neg Bool.false_ne_true]
    exact Ev.const rfl
/-- A zone: nothing, or its own closure. -/
def isZone (a : Int) (xs : List Int) : Bool := vars a && (decide (xs = []) || decide (fits a xs = true ∧ closeOk a.toNat xs = true ∧ closeTo a.toNat xs (a.toNat + 1) = xs))
theorem closeR_len (a : Int) (xs : List Int) : (closeR a xs).2.1.length ≤ 81 := by
  unfold closeR
  by_cases hf : fits a xs = true
  · obtain ⟨n, rfl, hn, hln⟩ := fits_n hf
    have := size_le hn
    rw [if_pos hf]
    simp only [Int.toNat_natCast]
    split
    · rw [closeTo_length]; omega
    · simp
  · rw [if_neg hf]; simp
theorem ev_Check (a : Int) (xs : List Int) : Ev (fun k => dbm_Check.f k a xs) (if isZone a xs = true then 0 else 80) := by
  unfold dbm_Check.f
  simp only [vars_f, Option.bind_some]
  have hC := ev_Close a xs
  by_cases h0 : (vars a && decide (xs = [])) = true
  · rw [Bool.and_eq_true, decide_eq_true_eq] at h0
    obtain ⟨hv, rfl⟩ := h0
    simp only [if_pos hv]
    refine Ev.succ (fun k => by rw [dbm_Check.j0]) ?_
    refine Ev.const ?_
    simp [isZone, hv]
  · have key : Ev (fun k => dbm_Check.j0 k false a xs) (if isZone a xs = true then 0 else 80) := by
      refine Ev.succ (fun k => by rw [dbm_Check.j0]) ?_
      simp only [if_neg Bool.false_ne_true]
      refine Ev.bind hC ?_
      by_cases hf : fits a xs = true
      · have e : (closeR a xs).2.2 = 0 := by unfold closeR; rw [if_pos hf]
        simp only [if_pos e]
        refine Ev.bind (ev_Same _ _ _ _ (by have := closeR_len a xs; omega)) ?_
        have hv : vars a = true := by unfold fits at hf; rw [Bool.and_eq_true] at hf; exact hf.1
        have hx : ¬ xs = [] := fun h => h0 (by simp [hv, h])
        have e2 : ((closeR a xs).1 = a ∧ (closeR a xs).2.1 = xs) ↔ isZone a xs = true := by
          unfold closeR isZone
          rw [if_pos hf]
          simp only [hv, hx, hf, decide_false, Bool.false_or, Bool.true_and, decide_eq_true_eq, true_and]
          constructor
          · intro h
            split at h
            · next hc => exact ⟨hc, h⟩
            · exact absurd h.symm hx
          · rintro ⟨h1, h2⟩
            rw [if_pos h1]; exact h2
        by_cases hz : isZone a xs = true
        · simp only [e2, hz, decide_true, if_pos]
          exact Ev.const rfl
        · simp only [e2, hz, decide_false, if_neg Bool.false_ne_true]
          exact Ev.const rfl
      · have e : (closeR a xs).2.2 = 1 := by unfold closeR; rw [if_neg hf]
        simp only [e, if_neg (show ¬ (1 : Int) = 0 by decide)]
        refine Ev.const ?_
        have : isZone a xs = false := by
          unfold isZone
          cases hv : vars a with
          | false => simp
          | true =>
            have hx : ¬ xs = [] := fun h => h0 (by simp [hv, h])
            simp [hx, hf]
        simp [this]
    by_cases hv : vars a = true
    · have e : ((xs.length : Int) == 0) = false := by
        have hx : ¬ xs = [] := fun h => h0 (by simp [hv, h])
        rw [beq_eq_false_iff_ne]
        intro h
        exact hx (List.eq_nil_of_length_eq_zero (by omega))
      simp only [if_pos hv, e]
      exact key
    · simp only [if_neg hv]
      exact key
end Go.Proofs.Ytgeemdpflcefkaa.DbmEv
/- chapter 08: what a zone has, and what a matrix has -/
namespace Go.Proofs.Ytgeemdpflcefkaa.DbmEv
open Go.RowKit Go.Proofs.Ytgeemdpflcefkaa.Y Go.Proofs.YtgeemdpflcefkaaW.PrintWords Go.Proofs.YtgeemdpflcefkaaW.PrintLast Go.Proofs.Ytgeemdpflcefkaa.DbmMath
theorem Ev.loop {l : Nat → Nat → Option Bool} {P : Nat → Bool} {rest : Bool} {N : Nat} (hend : (∀ j, j < N → P j = true) → Ev (fun k => l k N) rest)
    (hgo : ∀ i s, i < N → (∀ j, j < i → P j = true) → P i = true → Ev (fun k => l k (i + 1)) s → Ev (fun k => l k i) s) (hno : ∀ i, i < N → (∀ j, j < i → P j = true) → P i = false → Ev (fun k => l k i) false) :
    ∀ m i, i + m = N → (∀ j, j < i → P j = true) → Ev (fun k => l k i) ((List.range' i m).all P && rest)
  | 0, i, h, hj => by
    have : i = N := by omega
    subst this
    simpa using hend hj
  | m + 1, i, h, hj => by
    rw [List.range'_succ, List.all_cons]
    cases hp : P i with
    | false => simpa using hno i (by omega) hj hp
    | true =>
      have ih := Ev.loop hend hgo hno m (i + 1) (by omega) (fun j hji => by
        rcases Nat.lt_or_ge j i with h1 | h1
        · exact hj j h1
        · have : j = i := by omega
          rw [this]; exact hp)
      simpa using hgo i _ (by omega) hj hp ih
theorem Ev.loop0 {l : Nat → Nat → Option Bool} {P : Nat → Bool} {rest : Bool} {N : Nat} (hend : (∀ j, j < N → P j = true) → Ev (fun k => l k N) rest)
    (hgo : ∀ i s, i < N → (∀ j, j < i → P j = true) → P i = true → Ev (fun k => l k (i + 1)) s → Ev (fun k => l k i) s) (hno : ∀ i, i < N → (∀ j, j < i → P j = true) → P i = false → Ev (fun k => l k i) false) :
    Ev (fun k => l k 0) ((List.range' 0 N).all P && rest) := Ev.loop hend hgo hno N 0 (by omega) (fun j h => absurd h (by omega))
theorem all0 {N : Nat} {P : Nat → Bool} : (List.range' 0 N).all P = true ↔ ∀ i, i < N → P i = true := by
  rw [List.all_eq_true]
  exact ⟨fun h i hi => h i (List.mem_range'_1.2 ⟨by omega, by omega⟩), fun h i hi => h i (by have := List.mem_range'_1.1 hi; omega)⟩
theorem grid_at (n : Nat) (hn : n ≤ 8) (xs : List Int) (i j : Nat) (hi : i ≤ n) (hj : j ≤ n) : dbm_grid_at.f (n : Int) xs (i : Int) (j : Int) = some ((i * (n + 1) + j : Nat) : Int) := by
  unfold dbm_grid_at.f
  have h1 : i * (n + 1) ≤ 8 * 9 := Nat.mul_le_mul (by omega) (by omega)
  rw [w64 (x := (n : Int) + 1) (by omega) (by omega)]
  have e : (i : Int) * ((n : Int) + 1) = ((i * (n + 1) : Nat) : Int) := by simp only [Int.natCast_mul, Int.natCast_add, Int.natCast_one]
  rw [e, w64 (x := ((i * (n + 1) : Nat) : Int)) (by omega) (by omega), w64 (by omega) (by omega)]
  simp only [Int.natCast_add]
/-- The value of a variable; 0 is 0. -/
def wv (v : List Int) (i : Nat) : Int := rd (0 :: v) (i : Int)
def inR (a : Int) : Bool := decide (-1099511627776 ≤ a ∧ a ≤ 1099511627776)
theorem inR_iff {a : Int} : inR a = true ↔ -1099511627776 ≤ a ∧ a ≤ 1099511627776 := by unfold inR; rw [decide_eq_true_eq]
/-- v is a valuation of m. -/
def Val (n : Nat) (m : Mat) (v : List Int) : Prop := (∀ i, i ≤ n → -1099511627776 ≤ wv v i ∧ wv v i ≤ 1099511627776) ∧ ∀ i j, i ≤ n → j ≤ n → wv v i - wv v j ≤ m i j
theorem wv_zero (v : List Int) : wv v 0 = 0 := rfl
theorem ref_at (n : Nat) (hn : n ≤ 8) (i j : Nat) (hi : i ≤ n) (hj : j ≤ n) : wrap64 ((wrap64 ((i : Int) * (wrap64 ((n : Int) + 1)))) + (j : Int)) = ((i * (n + 1) + j : Nat) : Int) := by
  have := grid_at n hn [] i j hi hj
  unfold dbm_grid_at.f at this
  exact Option.some.inj this
end Go.Proofs.Ytgeemdpflcefkaa.DbmEv
/- chapter 08: dbm.Has, the closure as a zone, and what DbmHas asks -/
namespace Go.Proofs.Ytgeemdpflcefkaa.DbmEv
open Go.RowKit Go.Proofs.Ytgeemdpflcefkaa.Y Go.Proofs.YtgeemdpflcefkaaW.PrintWords Go.Proofs.YtgeemdpflcefkaaW.PrintLast Go.Proofs.Ytgeemdpflcefkaa.DbmMath
theorem closure_cut {n : Nat} {c D : Mat} (h : IsClosure n c D) (hc : ∀ i j, c i j ≤ far i j) {i j : Nat} (hi : i ≤ n) (hj : j ≤ n) : clip D i j = D i j := by
  have h1 := h.1.above h.2.1 hc hi hj
  have h2 := h.2.1 i j hi hj
  have h3 := hc i j
  unfold clip B; omega
theorem closure_zone {n : Nat} (hn : n ≤ 8) {xs : List Int} (hl : xs.length = (n + 1) * (n + 1)) {c : Mat} (hc : ∀ i j, c i j ≤ far i j) (h : IsClosure n c (at_ n xs)) : closeOk n xs = true ∧ closeTo n xs (n + 1) = xs ∧ isZone (n : Int) xs = true := by
  have h1 : IsClosure n (cut n xs) (at_ n xs) := by
    refine ⟨h.1, fun i j hi hj => ?_, fun X hX hu i j hi hj => ?_⟩
    · unfold cut; rw [closure_cut h hc hi hj]; exact Int.le_refl _
    · have := hu i j hi hj
      unfold cut at this
      rwa [closure_cut h hc hi hj] at this
  rcases prog_close hl with ⟨h2, h3⟩ | ⟨_, h3⟩
  · have e : closeTo n xs (n + 1) = xs := list_eq (by rw [closeTo_length]; exact hl) hl (h3.unique h1)
    refine ⟨h2, e, ?_⟩
    unfold isZone
    have hf := fits_of hn hl
    have hv : vars (n : Int) = true := by unfold fits at hf; rw [Bool.and_eq_true] at hf; exact hf.1
    rw [hv, Bool.true_and, Bool.or_eq_true]
    refine Or.inr (decide_eq_true ⟨hf, ?_, ?_⟩)
    · simpa using h2
    · simpa using e
  · exact absurd h3 h1.not_dead
def dif (v : List Int) : Mat := fun i j => wv v i - wv v j
theorem Val.closed {n : Nat} {m : Mat} {v : List Int} : Closed n (dif v) := ⟨fun i j k _ _ _ => by unfold dif; omega, fun i _ => by unfold dif; omega⟩
theorem Val.under {n : Nat} {xs v : List Int} (h : Val n (at_ n xs) v) : Under n (dif v) (cut n xs) := by
  intro i j hi hj
  have h1 := h.2 i j hi hj
  have h2 := h.1 i hi
  have h3 := h.1 j hj
  have h4 : dif v i j ≤ far i j := by
    unfold dif far
    by_cases e1 : i = j
    · rw [if_pos e1, e1]; omega
    · rw [if_neg e1]
      by_cases e2 : i = 0
      · rw [if_pos e2, e2, wv_zero]; omega
      · rw [if_neg e2]
        by_cases e3 : j = 0
        · rw [if_pos e3, e3, wv_zero]; omega
        · rw [if_neg e3]; omega
  unfold cut clip
  have : dif v i j = wv v i - wv v j := rfl
  omega
end Go.Proofs.Ytgeemdpflcefkaa.DbmEv
/- chapter 08: what the reference's closing tells: the same as the program's -/
namespace Go.Proofs.Ytgeemdpflcefkaa.DbmEv
open Go.RowKit Go.Proofs.Ytgeemdpflcefkaa.Y Go.Proofs.YtgeemdpflcefkaaW.PrintWords Go.Proofs.YtgeemdpflcefkaaW.PrintLast Go.Proofs.Ytgeemdpflcefkaa.DbmMath
theorem Ev.up {α} {l : Nat → Nat → Option α} {r : α} {N : Nat} (hend : Ev (fun k => l k N) r) (hgo : ∀ i, i < N → Ev (fun k => l k (i + 1)) r → Ev (fun k => l k i) r) : ∀ m i, i + m = N → Ev (fun k => l k i) r
  | 0, i, h => by
    have : i = N := by omega
    subst this; exact hend
  | m + 1, i, h => hgo i (by omega) (Ev.up hend hgo m (i + 1) (by omega))
theorem Ev.up0 {α} {l : Nat → Nat → Option α} {r : α} {N : Nat} (hend : Ev (fun k => l k N) r) (hgo : ∀ i, i < N → Ev (fun k => l k (i + 1)) r → Ev (fun k => l k i) r) : Ev (fun k => l k 0) r := Ev.up hend hgo N 0 (by omega)
theorem first_no {P : Nat → Prop} [DecidablePred P] : ∀ N, (¬ ∀ j, j < N → P j) → ∃ j, j < N ∧ (∀ i, i < j → P i) ∧ ¬ P j
  | 0, h => absurd (fun j hj => absurd hj (by omega)) h
  | N + 1, h => by
    by_cases h1 : ∀ j, j < N → P j
    · refine ⟨N, by omega, h1, fun h2 => h fun j hj => ?_⟩
      rcases Nat.lt_or_ge j N with h3 | h3
      · exact h1 j h3
      · have : j = N := by omega
        rw [this]; exact h2
    · obtain ⟨j, a, b, c⟩ := first_no N h1
      exact ⟨j, by omega, b, c⟩
/-- A matrix's first numbers, row by row. -/
def pre (n : Nat) (G : Mat) (p : Nat) : List Int := (List.range p).map fun q => G (q / (n + 1)) (q % (n + 1))
theorem pre_len (n : Nat) (G : Mat) (p : Nat) : (pre n G p).length = p := by simp [pre]
theorem pre_succ (n : Nat) (G : Mat) (i j : Nat) (hj : j ≤ n) : pre n G (i * (n + 1) + j) ++ [G i j] = pre n G (i * (n + 1) + (j + 1)) := by
  have h1 : (i * (n + 1) + j) / (n + 1) = i := by
    rw [Nat.add_comm, Nat.mul_comm, Nat.add_mul_div_left _ _ (Nat.succ_pos n), Nat.div_eq_of_lt (by omega), Nat.zero_add]
  have h2 : (i * (n + 1) + j) % (n + 1) = j := by
    rw [Nat.add_comm, Nat.mul_comm, Nat.add_mul_mod_self_left, Nat.mod_eq_of_lt (by omega)]
  unfold pre
  rw [show i * (n + 1) + (j + 1) = (i * (n + 1) + j) + 1 by omega, List.range_succ, List.map_append, List.map_singleton, h1, h2]
theorem pre_row (n : Nat) (G : Mat) (i : Nat) : pre n G (i * (n + 1) + (n + 1)) = pre n G ((i + 1) * (n + 1) + 0) := by
  rw [show (i + 1) * (n + 1) + 0 = i * (n + 1) + (n + 1) by rw [Nat.succ_mul]; omega]
theorem pre_at {n : Nat} {G : Mat} {i j : Nat} (hi : i ≤ n) (hj : j ≤ n) : at_ n (pre n G ((n + 1) * (n + 1))) i j = G i j := by
  have hlt := place_lt hi hj
  have h1 : (i * (n + 1) + j) / (n + 1) = i := by
    rw [Nat.add_comm, Nat.mul_comm, Nat.add_mul_div_left _ _ (Nat.succ_pos n), Nat.div_eq_of_lt (by omega), Nat.zero_add]
  have h2 : (i * (n + 1) + j) % (n + 1) = j := by
    rw [Nat.add_comm, Nat.mul_comm, Nat.add_mul_mod_self_left, Nat.mod_eq_of_lt (by omega)]
  unfold at_ pre
  rw [rd_nat, List.getD_eq_getElem?_getD, List.getElem?_map, List.getElem?_range hlt]
  simp [h1, h2]
theorem far_f (i j : Nat) : warrantorref08_far.f (i : Int) (j : Int) = some (far i j) := by
  rw [← mostF_eq]
  unfold warrantorref08_far.f mostF
  split
  · rfl
  · split
    · rfl
    · split <;> rfl
theorem ev_clip {n : Nat} (hn : n ≤ 8) {xs : List Int} (hl : xs.length = (n + 1) * (n + 1)) : Ev (fun k => warrantorref08_clip.f k (n : Int) xs) (pre n (cut n xs) ((n + 1) * (n + 1))) := by
  unfold warrantorref08_clip.f
  have hs := size_le hn
  have h0 : ([] : List Int) = pre n (cut n xs) (0 * (n + 1) + 0) := by simp [pre]
  rw [h0]
  refine Ev.up0 (l := fun k i => warrantorref08_clip.l0 k (n : Int) xs (pre n (cut n xs) (i * (n + 1) + 0)) (i : Int)) (N := n + 1) ?_ ?_
  · refine Ev.succ (fun k => by rw [warrantorref08_clip.l0]) ?_
    simp only [if_neg (show ¬ ((n + 1 : Nat) : Int) ≤ (n : Int) by omega), Nat.add_zero]
    exact Ev.const rfl
  · intro i hi hrest
    refine Ev.succ (fun k => by rw [warrantorref08_clip.l0]) ?_
    simp only [if_pos (show (i : Int) ≤ (n : Int) by omega)]
    refine Ev.up0 (l := fun k j => warrantorref08_clip.l1 k (n : Int) xs (pre n (cut n xs) (i * (n + 1) + j)) (i : Int) (j : Int)) (N := n + 1) ?_ ?_
    · refine Ev.succ (fun k => by rw [warrantorref08_clip.l1]) ?_
      simp only [if_neg (show ¬ ((n + 1 : Nat) : Int) ≤ (n : Int) by omega), succ_nat i (by omega), pre_row]
      exact hrest
    · intro j hj hnext
      have hp := place_lt (show i ≤ n by omega) (show j ≤ n by omega)
      have hlen : (pre n (cut n xs) (i * (n + 1) + j)).length < 17592186044416 := by rw [pre_len]; omega
      refine Ev.succ (fun k => by rw [warrantorref08_clip.l1]) ?_
      simp only [if_pos (show (j : Int) ≤ (n : Int) by omega), ref_at n hn i j (by omega) (by omega), if_pos (show (0 : Int) ≤ ((i * (n + 1) + j : Nat) : Int) by omega), if_pos (show ((i * (n + 1) + j : Nat) : Int) < (xs.length : Int) by omega), far_f, Option.bind_some, if_pos hlen, succ_nat j (by omega)]
      have hc : cut n xs i j = max (min (rd xs ((i * (n + 1) + j : Nat) : Int)) (far i j)) B := rfl
      have hf := far_le i j
      have hB : B = -2199023255553 := rfl
      rw [← pre_succ n (cut n xs) i j (by omega)] at hnext
      by_cases h1 : rd xs ((i * (n + 1) + j : Nat) : Int) > far i j
      · simp only [if_pos h1, if_neg (show ¬ far i j < -2199023255553 by omega)]
        rw [show cut n xs i j = far i j by omega] at hnext
        exact hnext
      · simp only [if_neg h1]
        by_cases h2 : rd xs ((i * (n + 1) + j : Nat) : Int) < -2199023255553
        · simp only [if_pos h2]
          rw [show cut n xs i j = -2199023255553 by omega] at hnext
          exact hnext
        · simp only [if_neg h2]
          rw [show cut n xs i j = rd xs ((i * (n + 1) + j : Nat) : Int) by omega] at hnext
          exact hnext
/-- The least of the ways over the first so many. -/
def twk (x : Mat) (i j : Nat) : Nat → Int
  | 0 => x i j
  | k + 1 => if x i k + x k j < twk x i j k then x i k + x k j else twk x i j k
theorem twk_spec (x : Mat) (i j : Nat) : ∀ m, twk x i j m ≤ x i j ∧ (∀ k, k < m → twk x i j m ≤ x i k + x k j) ∧ (twk x i j m = x i j ∨ ∃ k, k < m ∧ twk x i j m = x i k + x k j)
  | 0 => ⟨Int.le_refl _, fun k h => absurd h (by omega), Or.inl rfl⟩
  | m + 1 => by
    obtain ⟨h1, h2, h3⟩ := twk_spec x i j m
    unfold twk
    split
    · next h =>
      refine ⟨by omega, fun k hk => ?_, Or.inr ⟨m, by omega, rfl⟩⟩
      rcases Nat.lt_or_ge k m with h4 | h4
      · have := h2 k h4; omega
      · have : k = m := by omega
        subst this; exact Int.le_refl _
    · next h =>
      refine ⟨h1, fun k hk => ?_, ?_⟩
      · rcases Nat.lt_or_ge k m with h4 | h4
        · exact h2 k h4
        · have : k = m := by omega
          subst this; omega
      · rcases h3 with h3 | ⟨k, hk, h3⟩
        · exact Or.inl h3
        · exact Or.inr ⟨k, by omega, h3⟩
def tw (n : Nat) (x : Mat) : Mat := fun i j => twk x i j (n + 1)
theorem tw_is (n : Nat) (x : Mat) : IsTwice n x (tw n x) := by
  intro i j _ _
  obtain ⟨h1, h2, h3⟩ := twk_spec x i j (n + 1)
  refine ⟨h1, fun k hk => h2 k (by omega), ?_⟩
  rcases h3 with h3 | ⟨k, hk, h3⟩
  · exact Or.inl h3
  · exact Or.inr ⟨k, by omega, h3⟩
def Bnd (n : Nat) (x : Mat) (b : Int) : Prop := ∀ i j, i ≤ n → j ≤ n → -b ≤ x i j ∧ x i j ≤ 2199023255552
theorem tw_bnd {n : Nat} {x : Mat} {b : Int} (h : Bnd n x b) (hb : 0 ≤ b) : Bnd n (tw n x) (2 * b) := by
  intro i j hi hj
  have h0 := tw_is n x i j hi hj
  have h1 := h i j hi hj
  refine ⟨?_, by omega⟩
  rcases h0.2.2 with e | ⟨k, hk, e⟩
  · omega
  · have h2 := h i k hi hk
    have h3 := h k j hk hj
    omega
theorem ev_twice {n : Nat} (hn : n ≤ 8) {xs : List Int} (hl : xs.length = (n + 1) * (n + 1)) {b : Int} (hb : 0 ≤ b) (hb2 : b ≤ 1152921504606846976) (hx : Bnd n (at_ n xs) b) : Ev (fun k => warrantorref08_twice.f k (n : Int) xs) (pre n (tw n (at_ n xs)) ((n + 1) * (n + 1))) := by
  unfold warrantorref08_twice.f
  have hs := size_le hn
  have h0 : ([] : List Int) = pre n (tw n (at_ n xs)) (0 * (n + 1) + 0) := by simp [pre]
  rw [h0]
  refine Ev.up0 (l := fun k i => warrantorref08_twice.l0 k (n : Int) xs (pre n (tw n (at_ n xs)) (i * (n + 1) + 0)) (i : Int)) (N := n + 1) ?_ ?_
  · refine Ev.succ (fun k => by rw [warrantorref08_twice.l0]) ?_
    simp only [if_neg (show ¬ ((n + 1 : Nat) : Int) ≤ (n : Int) by omega), Nat.add_zero]
    exact Ev.const rfl
  · intro i hi hrest
    refine Ev.succ (fun k => by rw [warrantorref08_twice.l0]) ?_
    simp only [if_pos (show (i : Int) ≤ (n : Int) by omega)]
    refine Ev.up0 (l := fun k j => warrantorref08_twice.l1 k (n : Int) xs (pre n (tw n (at_ n xs)) (i * (n + 1) + j)) (i : Int) (j : Int)) (N := n + 1) ?_ ?_
    · refine Ev.succ (fun k => by rw [warrantorref08_twice.l1]) ?_
      simp only [if_neg (show ¬ ((n + 1 : Nat) : Int) ≤ (n : Int) by omega), succ_nat i (by omega), pre_row]
      exact hrest
    · intro j hj hnext
      have hp := place_lt (show i ≤ n by omega) (show j ≤ n by omega)
      refine Ev.succ (fun k => by rw [warrantorref08_twice.l1]) ?_
      simp only [if_pos (show (j : Int) ≤ (n : Int) by omega), ref_at n hn i j (by omega) (by omega), if_pos (show (0 : Int) ≤ ((i * (n + 1) + j : Nat) : Int) by omega), if_pos (show ((i * (n + 1) + j : Nat) : Int) < (xs.length : Int) by omega)]
      refine Ev.up0 (l := fun k m => warrantorref08_twice.l2 k (n : Int) xs (pre n (tw n (at_ n xs)) (i * (n + 1) + j)) (i : Int) (j : Int) (twk (at_ n xs) i j m) (m : Int)) (N := n + 1) ?_ ?_
      · have hlen : (pre n (tw n (at_ n xs)) (i * (n + 1) + j)).length < 17592186044416 := by rw [pre_len]; omega
        refine Ev.succ (fun k => by rw [warrantorref08_twice.l2]) ?_
        simp only [if_neg (show ¬ ((n + 1 : Nat) : Int) ≤ (n : Int) by omega), if_pos hlen, succ_nat j (by omega)]
        rw [← pre_succ n (tw n (at_ n xs)) i j (by omega)] at hnext
        exact hnext
      · intro m hm h
        have p1 := place_lt (show i ≤ n by omega) (show m ≤ n by omega)
        have p2 := place_lt (show m ≤ n by omega) (show j ≤ n by omega)
        have b1 := hx i m (by omega) (by omega)
        have b2 := hx m j (by omega) (by omega)
        refine Ev.succ (fun k => by rw [warrantorref08_twice.l2]) ?_
        have e1 : rd xs ((i * (n + 1) + m : Nat) : Int) = at_ n xs i m := rfl
        have e2 : rd xs ((m * (n + 1) + j : Nat) : Int) = at_ n xs m j := rfl
        simp only [if_pos (show (m : Int) ≤ (n : Int) by omega), ref_at n hn i m (by omega) (by omega), ref_at n hn m j (by omega) (by omega), if_pos (show (0 : Int) ≤ ((i * (n + 1) + m : Nat) : Int) by omega), if_pos (show ((i * (n + 1) + m : Nat) : Int) < (xs.length : Int) by omega), if_pos (show (0 : Int) ≤ ((m * (n + 1) + j : Nat) : Int) by omega), if_pos (show ((m * (n + 1) + j : Nat) : Int) < (xs.length : Int) by omega), e1, e2, w64 (x := at_ n xs i m + at_ n xs m j) (by omega) (by omega), succ_nat m (by omega)]
        unfold twk at h
        by_cases h1 : at_ n xs i m + at_ n xs m j < twk (at_ n xs) i j m
        · simp only [if_pos h1] at h ⊢; exact h
        · simp only [if_neg h1] at h ⊢; exact h
/-- The reference's four stages. -/
def stage (n : Nat) (xs : List Int) : Nat → List Int
  | 0 => pre n (cut n xs) ((n + 1) * (n + 1))
  | t + 1 => pre n (tw n (at_ n (stage n xs t))) ((n + 1) * (n + 1))
theorem stage_len (n : Nat) (xs : List Int) : ∀ t, (stage n xs t).length = (n + 1) * (n + 1)
  | 0 => pre_len _ _ _
  | _ + 1 => pre_len _ _ _
theorem stage_twice (n : Nat) (xs : List Int) (t : Nat) : IsTwice n (at_ n (stage n xs t)) (at_ n (stage n xs (t + 1))) := by
  intro i j hi hj
  have h := tw_is n (at_ n (stage n xs t)) i j hi hj
  have e : at_ n (stage n xs (t + 1)) i j = tw n (at_ n (stage n xs t)) i j := pre_at hi hj
  rw [e]; exact h
theorem stage_bnd (n : Nat) (xs : List Int) : ∀ t, Bnd n (at_ n (stage n xs t)) (2 ^ t * 2199023255553)
  | 0 => fun i j hi hj => by
    have e : at_ n (stage n xs 0) i j = cut n xs i j := pre_at hi hj
    have h1 := clip_range (at_ n xs) i j
    have h2 := far_le i j
    have h3 : cut n xs i j = clip (at_ n xs) i j := rfl
    have hB : B = -2199023255553 := rfl
    rw [e]; omega
  | t + 1 => fun i j hi hj => by
    have h := tw_bnd (stage_bnd n xs t) (Int.mul_nonneg (Int.pow_nonneg (by omega)) (by omega)) i j hi hj
    have e : at_ n (stage n xs (t + 1)) i j = tw n (at_ n (stage n xs t)) i j := pre_at hi hj
    rw [e, Int.pow_succ]
    omega
theorem stage_all (n : Nat) (xs : List Int) : ∀ t, Att n (cut n xs) (at_ n (stage n xs t)) ∧ Lower n (cut n xs) (at_ n (stage n xs t)) (2 ^ t) ∧ Under n (at_ n (stage n xs t)) (cut n xs) ∧ (∀ X, Closed n X → Under n X (cut n xs) → Under n X (at_ n (stage n xs t)))
  | 0 => by
    have e : ∀ i j, i ≤ n → j ≤ n → at_ n (stage n xs 0) i j = cut n xs i j := fun i j hi hj => pre_at hi hj
    refine ⟨fun i j hi hj => by rw [e i j hi hj]; exact Att.start i j hi hj, fun l i j hi hj h1 h2 => by rw [e i j hi hj]; exact Lower.start l i j hi hj h1 h2, fun i j hi hj => by rw [e i j hi hj]; exact Int.le_refl _, fun X _ hu i j hi hj => by rw [e i j hi hj]; exact hu i j hi hj⟩
  | t + 1 => by
    obtain ⟨h1, h2, h3, h4⟩ := stage_all n xs t
    have ht := stage_twice n xs t
    refine ⟨h1.step ht, ?_, ht.under h3, ht.greater h4⟩
    have := h2.step (Nat.pow_pos (by omega)) ht
    rw [Nat.pow_succ, Nat.mul_comm]; exact this
/-- The reference's closing and the program's: the same. -/
theorem ref_close {n : Nat} (hn : n ≤ 8) {xs : List Int} (hl : xs.length = (n + 1) * (n + 1)) :
    (closeOk n xs = true ∧ (∀ i, i ≤ n → 0 ≤ at_ n (stage n xs 4) i i) ∧ stage n xs 4 = closeTo n xs (n + 1)) ∨ (closeOk n xs = false ∧ ¬ ∀ i, i ≤ n → 0 ≤ at_ n (stage n xs 4) i i) := by
  obtain ⟨h1, h2, h3, h4⟩ := stage_all n xs 4
  have hc : (∀ i, i ≤ n → 0 ≤ at_ n (stage n xs 4) i i) → IsClosure n (cut n xs) (at_ n (stage n xs 4)) := fun hd => h1.closed h2 (by have : 2 ^ 4 = 16 := rfl; omega) h3 hd h4
  rcases prog_close hl with ⟨a, hD⟩ | ⟨a, hD⟩
  · have hd : ∀ i, i ≤ n → 0 ≤ at_ n (stage n xs 4) i i := fun i hi => Int.le_trans (hD.1.2 i hi) (h4 _ hD.1 hD.2.1 i i hi hi)
    exact Or.inl ⟨a, hd, list_eq (stage_len n xs 4) (by rw [closeTo_length]; exact hl) ((hc hd).unique hD)⟩
  · exact Or.inr ⟨a, fun hd => (hc hd).not_dead hD⟩
theorem ev_refClose {n : Nat} (hn : n ≤ 8) {xs : List Int} (hl : xs.length = (n + 1) * (n + 1)) : Ev (fun k => warrantorref08_Close.f k (n : Int) xs) ((n : Int), if closeOk n xs = true then closeTo n xs (n + 1) else []) := by
  unfold warrantorref08_Close.f
  have hs := size_le hn
  refine Ev.bind (ev_clip hn hl) ?_
  refine Ev.up0 (l := fun k t => warrantorref08_Close.l0 k (n : Int) (stage n xs t) (t : Int)) (N := 4) ?_ ?_
  · refine Ev.succ (fun k => by rw [warrantorref08_Close.l0]) ?_
    simp only [if_neg (show ¬ ((4 : Nat) : Int) < 4 by decide)]
    have hlen := stage_len n xs 4
    have go : ∀ i r, i < n + 1 → 0 ≤ at_ n (stage n xs 4) i i → Ev (fun k => warrantorref08_Close.l1 k (n : Int) (stage n xs 4) ((i + 1 : Nat) : Int)) r → Ev (fun k => warrantorref08_Close.l1 k (n : Int) (stage n xs 4) (i : Int)) r := by
      intro i r hi hd h
      have hp := place_lt (show i ≤ n by omega) (show i ≤ n by omega)
      refine Ev.succ (fun k => by rw [warrantorref08_Close.l1]) ?_
      simp only [if_pos (show (i : Int) ≤ (n : Int) by omega), ref_at n hn i i (by omega) (by omega), if_pos (show (0 : Int) ≤ ((i * (n + 1) + i : Nat) : Int) by omega), if_pos (show ((i * (n + 1) + i : Nat) : Int) < ((stage n xs 4).length : Int) by omega), succ_nat i (by omega)]
      unfold at_ at hd
      simp only [if_neg (show ¬ rd (stage n xs 4) ((i * (n + 1) + i : Nat) : Int) < 0 by omega)]
      exact h
    rcases ref_close hn hl with ⟨a, hd, e⟩ | ⟨a, hd⟩
    · simp only [if_pos a]
      refine Ev.up0 (l := fun k i => warrantorref08_Close.l1 k (n : Int) (stage n xs 4) (i : Int)) (N := n + 1) ?_ (fun i hi h => go i _ hi (hd i (by omega)) h)
      refine Ev.succ (fun k => by rw [warrantorref08_Close.l1]) ?_
      simp only [if_neg (show ¬ ((n + 1 : Nat) : Int) ≤ (n : Int) by omega)]
      exact Ev.const (by rw [e])
    · simp only [a, if_neg Bool.false_ne_true]
      obtain ⟨m, hm, hlt, hno⟩ := first_no (P := fun i => 0 ≤ at_ n (stage n xs 4) i i) (n + 1) (fun h => hd fun i hi => h i (by omega))
      refine Ev.up0 (l := fun k i => warrantorref08_Close.l1 k (n : Int) (stage n xs 4) (i : Int)) (N := m) ?_ (fun i hi h => go i _ (by omega) (hlt i hi) h)
      have hp := place_lt (show m ≤ n by omega) (show m ≤ n by omega)
      refine Ev.succ (fun k => by rw [warrantorref08_Close.l1]) ?_
      simp only [if_pos (show (m : Int) ≤ (n : Int) by omega), ref_at n hn m m (by omega) (by omega), if_pos (show (0 : Int) ≤ ((m * (n + 1) + m : Nat) : Int) by omega), if_pos (show ((m * (n + 1) + m : Nat) : Int) < ((stage n xs 4).length : Int) by omega)]
      unfold at_ at hno
      simp only [if_pos (show rd (stage n xs 4) ((m * (n + 1) + m : Nat) : Int) < 0 by omega)]
      exact Ev.const rfl
  · intro t ht h
    refine Ev.succ (fun k => by rw [warrantorref08_Close.l0]) ?_
    simp only [if_pos (show (t : Int) < 4 by omega), succ_nat t (by omega)]
    have hb := stage_bnd n xs t
    have h2 : (2 : Int) ^ t * 2199023255553 ≤ 1152921504606846976 := by
      have : t = 0 ∨ t = 1 ∨ t = 2 ∨ t = 3 := by omega
      rcases this with rfl | rfl | rfl | rfl <;> decide
    refine Ev.bind (ev_twice hn (stage_len n xs t) (Int.mul_nonneg (Int.pow_nonneg (by omega)) (by omega)) h2 hb) ?_
    exact h
theorem ev_refSame (a b : Int) (xs ys : List Int) (hx : xs.length ≤ 4611686018427387904) : Ev (fun k => warrantorref08_Same.f k a xs b ys) (decide (a = b ∧ xs = ys)) := by
  unfold warrantorref08_Same.f
  by_cases hab : a = b
  · simp only [if_pos hab]
    refine Ev.succ (fun k => by rw [warrantorref08_Same.j0]) ?_
    by_cases hl : xs.length = ys.length
    · have e : ((xs.length : Int) != (ys.length : Int)) = false := by rw [bne_eq_false_iff_eq]; omega
      simp only [e, if_neg Bool.false_ne_true]
      have h := Ev.loop0 (l := fun k i => warrantorref08_Same.l0 k (i : Int) a xs b ys) (P := fun i => decide (rd xs i = rd ys i)) (rest := true) (N := xs.length) ?_ ?_ ?_
      · have e : ((List.range' 0 xs.length).all (fun i => decide (rd xs i = rd ys i)) && true) = decide (a = b ∧ xs = ys) := by
          rw [Bool.and_true]
          apply Bool.eq_iff_iff.2
          rw [all0, decide_eq_true_eq]
          constructor
          · intro h
            refine ⟨hab, List.ext_getElem hl fun i h1 h2 => ?_⟩
            have := of_decide_eq_true (h i h1)
            rwa [rd_get h1, rd_get h2] at this
          · rintro ⟨_, rfl⟩ i _
            simp
        rw [e] at h
        exact h
      · intro _
        refine Ev.succ (fun k => by rw [warrantorref08_Same.l0]) ?_
        simp only [if_neg (Int.lt_irrefl _)]
        exact Ev.const rfl
      · intro i s hi _ hp hs
        refine Ev.succ (fun k => by rw [warrantorref08_Same.l0]) ?_
        simp only [if_pos (show (i : Int) < (xs.length : Int) by omega), if_pos (show (0 : Int) ≤ (i : Int) by omega), if_pos (show (i : Int) < (ys.length : Int) by omega), if_pos (of_decide_eq_true hp), succ_nat i (by omega)]
        exact hs
      · intro i hi _ hp
        refine Ev.succ (fun k => by rw [warrantorref08_Same.l0]) ?_
        simp only [if_pos (show (i : Int) < (xs.length : Int) by omega), if_pos (show (0 : Int) ≤ (i : Int) by omega), if_pos (show (i : Int) < (ys.length : Int) by omega), if_neg (of_decide_eq_false hp)]
        exact Ev.const rfl
    · have e : ((xs.length : Int) != (ys.length : Int)) = true := by rw [bne_iff_ne]; omega
      simp only [e, if_pos]
      have : ¬ xs = ys := fun h => hl (by rw [h])
      exact Ev.const (by simp [this])
  · simp only [if_neg hab]
    have e : decide (a = b ∧ xs = ys) = false := decide_eq_false fun h => hab h.1
    rw [e]
    refine Ev.succ (fun k => by rw [warrantorref08_Same.j0]) ?_
    simp only [if_pos]
    exact Ev.const rfl
theorem refVars_f (a : Int) : warrantorref08_Vars.f a = some (vars a) := vars_f a
end Go.Proofs.Ytgeemdpflcefkaa.DbmEv
namespace Go.Proofs.Ytgeemdpflcefkaa.DbmEv
open Go.RowKit Go.Proofs.Ytgeemdpflcefkaa.Y Go.Proofs.YtgeemdpflcefkaaW.PrintWords Go.Proofs.YtgeemdpflcefkaaW.PrintLast Go.Proofs.Ytgeemdpflcefkaa.DbmMath
theorem isZone_nil {n : Nat} (hn : n ≤ 8) : isZone (n : Int) [] = true := by
  unfold isZone vars
  simp; omega
theorem zone_cases {a : Int} {xs : List Int} (h : isZone a xs = true) : ∃ n : Nat, a = n ∧ n ≤ 8 ∧ (xs = [] ∨ (¬ xs = [] ∧ xs.length = (n + 1) * (n + 1) ∧ IsClosure n (cut n xs) (at_ n xs))) := by
  unfold isZone at h
  rw [Bool.and_eq_true, Bool.or_eq_true, decide_eq_true_eq, decide_eq_true_eq] at h
  obtain ⟨hv, hx⟩ := h
  by_cases h0 : xs = []
  · have hv2 := of_decide_eq_true hv
    exact ⟨a.toNat, by omega, by omega, .inl h0⟩
  · rcases hx with hx | ⟨hf, hc, he⟩
    · exact absurd hx h0
    · obtain ⟨n, rfl, hn, hl⟩ := fits_n hf
      rw [Int.toNat_natCast] at hc he
      rcases prog_close hl with ⟨_, hD⟩ | ⟨hD, _⟩
      · rw [he] at hD
        exact ⟨n, rfl, hn, .inr ⟨h0, hl, hD⟩⟩
      · rw [hD] at hc; cases hc
theorem ev_refCheck (a : Int) (xs : List Int) (hx : xs.length ≤ 200) : Ev (fun k => warrantorref08_Check.f k a xs) (isZone a xs) := by
  unfold warrantorref08_Check.f
  simp only [refVars_f, Option.bind_some]
  by_cases hv : vars a = true
  · simp only [if_pos hv]
    by_cases h0 : xs = []
    · subst h0
      refine Ev.const ?_
      unfold isZone
      rw [hv]; rfl
    · have hne : ¬ (xs.length : Int) = 0 := fun h => h0 (List.eq_nil_of_length_eq_zero (by omega))
      simp only [if_neg hne, size_eq hv]
      by_cases hl : xs.length = (a.toNat + 1) * (a.toNat + 1)
      · have hf : fits a xs = true := by unfold fits; rw [hv, decide_eq_true hl]; rfl
        obtain ⟨n, rfl, hn, hl2⟩ := fits_n hf
        rw [Int.toNat_natCast] at hl ⊢
        simp only [if_pos (show (xs.length : Int) = (((n + 1) * (n + 1) : Nat) : Int) by rw [hl])]
        refine Ev.bind (ev_refClose hn hl2) ?_
        have hcl : (if closeOk n xs = true then closeTo n xs (n + 1) else []).length ≤ 4611686018427387904 := by
          split
          · rw [closeTo_length]; omega
          · simp
        refine Ev.bind (ev_refSame _ _ _ _ hcl) ?_
        refine Ev.const ?_
        unfold isZone
        rw [hv, decide_eq_false h0, hf, Int.toNat_natCast]
        congr 1
        by_cases hc : closeOk n xs = true
        · simp [hc]
        · simp only [if_neg hc]
          have hc2 : closeOk n xs = false := by simpa using hc
          rw [hc2]
          simp
          exact fun h => h0 h
      · simp only [if_neg (show ¬ (xs.length : Int) = (((a.toNat + 1) * (a.toNat + 1) : Nat) : Int) by omega)]
        refine Ev.const ?_
        have hf : fits a xs = false := by unfold fits; rw [decide_eq_false hl, Bool.and_false]
        unfold isZone
        rw [hv, decide_eq_false h0, hf]
        simp
  · simp only [if_neg hv]
    refine Ev.const ?_
    have hv2 : vars a = false := by simpa using hv
    unfold isZone
    rw [hv2]; rfl
end Go.Proofs.Ytgeemdpflcefkaa.DbmEv
/- chapter 09: what is told of two zones, by the program and by the reference -/
namespace Go.Proofs.Ytgeemdpflcefkaa.DbmEv
open Go.RowKit Go.Proofs.Ytgeemdpflcefkaa.Y Go.Proofs.YtgeemdpflcefkaaW.PrintWords Go.Proofs.YtgeemdpflcefkaaW.PrintLast Go.Proofs.Ytgeemdpflcefkaa.DbmMath
def closeT (n : Nat) (zs : List Int) : List Int := if closeOk n zs = true then closeTo n zs (n + 1) else []
theorem closeR_fit {n : Nat} (hn : n ≤ 8) {zs : List Int} (hl : zs.length = (n + 1) * (n + 1)) : closeR (n : Int) zs = ((n : Int), closeT n zs, 0) := by
  unfold closeR closeT
  rw [if_pos (fits_of hn hl), Int.toNat_natCast]
theorem closeT_len (n : Nat) {zs : List Int} (hl : zs.length = (n + 1) * (n + 1)) : closeT n zs = [] ∨ (closeT n zs).length = (n + 1) * (n + 1) := by
  unfold closeT
  split
  · right; rw [closeTo_length]; exact hl
  · left; rfl
theorem clone_f {xs : List Int} (h : xs.length < 17592186044416) : slices_Clone_int_int.f xs = some xs := by
  unfold slices_Clone_int_int.f
  simp only [Option.bind_some, List.length_nil, Nat.zero_add, if_pos h, List.nil_append]
theorem zone_len {n : Nat} {xs : List Int} (h : isZone (n : Int) xs = true) : n ≤ 8 ∧ (xs = [] ∨ (¬ xs = [] ∧ xs.length = (n + 1) * (n + 1) ∧ IsClosure n (cut n xs) (at_ n xs))) := by
  obtain ⟨m, hm, hn, hc⟩ := zone_cases h
  have : n = m := by omega
  subst this
  exact ⟨hn, hc⟩
end Go.Proofs.Ytgeemdpflcefkaa.DbmEv
/- chapter 09: what is made of a zone, by the program and by the reference -/
namespace Go.Proofs.Ytgeemdpflcefkaa.DbmEv
open Go.RowKit Go.Proofs.Ytgeemdpflcefkaa.Y Go.Proofs.YtgeemdpflcefkaaW.PrintWords Go.Proofs.YtgeemdpflcefkaaW.PrintLast Go.Proofs.Ytgeemdpflcefkaa.DbmMath
theorem closeT_cases {n : Nat} {xs : List Int} (hx : xs.length = (n + 1) * (n + 1)) : (closeT n xs = [] ∧ Dead n (cut n xs)) ∨ ((closeT n xs).length = (n + 1) * (n + 1) ∧ ¬ closeT n xs = [] ∧ IsClosure n (cut n xs) (at_ n (closeT n xs))) := by
  unfold closeT
  rcases prog_close hx with ⟨a, hD⟩ | ⟨a, hD⟩
  · rw [if_pos a]
    have hl : (closeTo n xs (n + 1)).length = (n + 1) * (n + 1) := by rw [closeTo_length]; exact hx
    exact .inr ⟨hl, fun h => by rw [h] at hl; simp at hl, hD⟩
  · rw [if_neg (by rw [a]; decide)]
    exact .inl ⟨rfl, hD⟩
theorem closeT_congr {n : Nat} {xs ys : List Int} (hx : xs.length = (n + 1) * (n + 1)) (hy : ys.length = (n + 1) * (n + 1)) (h : ∀ X, Closed n X → (Under n X (cut n xs) ↔ Under n X (cut n ys))) : closeT n xs = closeT n ys := by
  rcases closeT_cases hx with ⟨a, hD⟩ | ⟨a, a0, hD⟩ <;> rcases closeT_cases hy with ⟨b, hE⟩ | ⟨b, b0, hE⟩
  · rw [a, b]
  · exact absurd ((h _ hE.1).2 hE.2.1) (hD _ hE.1)
  · exact absurd ((h _ hD.1).1 hD.2.1) (hE _ hD.1)
  · exact list_eq a b (hD.unique ⟨hE.1, (h _ hE.1).2 hE.2.1, fun X hX hu => hE.2.2 X hX ((h X hX).1 hu)⟩)
theorem under_cut {n : Nat} {X : Mat} {xs ys : List Int} (h : ∀ a b, a ≤ n → b ≤ n → at_ n xs a b ≤ at_ n ys a b) (hu : Under n X (cut n xs)) : Under n X (cut n ys) := by
  intro a b ha hb
  have h1 := hu a b ha hb
  have h2 := h a b ha hb
  unfold cut clip at h1 ⊢
  omega
theorem limitL_len (n : Nat) (xs : List Int) (i j : Nat) (c : Int) : (limitL n xs i j c).length = xs.length := by unfold limitL; rw [List.length_set]
theorem at_limit {n : Nat} {xs : List Int} {i j : Nat} (hl : xs.length = (n + 1) * (n + 1)) (hi : i ≤ n) (hj : j ≤ n) (c : Int) {a b : Nat} (ha : a ≤ n) (hb : b ≤ n) : at_ n (limitL n xs i j c) a b = if a = i ∧ b = j then min (at_ n xs i j) c else at_ n xs a b := by
  unfold limitL
  rw [at_set hl hi hj ha hb, mn_eq]; rfl
theorem limit_le {n : Nat} {xs : List Int} {i j : Nat} (hl : xs.length = (n + 1) * (n + 1)) (hi : i ≤ n) (hj : j ≤ n) (c : Int) (a b : Nat) (ha : a ≤ n) (hb : b ≤ n) : at_ n (limitL n xs i j c) a b ≤ at_ n xs a b := by
  rw [at_limit hl hi hj c ha hb]
  split
  · next h => rw [h.1, h.2]; omega
  · omega
/-- Two bounds at once, or one behind the other. -/
theorem close_equal {n : Nat} {F : List Int} (hF : F.length = (n + 1) * (n + 1)) {i j : Nat} (hi : i ≤ n) (hj : j ≤ n) (c d : Int) :
    closeT n (limitL n (limitL n F i j c) j i d) = (if closeT n (limitL n F i j c) = [] then [] else closeT n (limitL n (closeT n (limitL n F i j c)) j i d)) := by
  have hl1 : (limitL n F i j c).length = (n + 1) * (n + 1) := by rw [limitL_len]; exact hF
  have hl2 : (limitL n (limitL n F i j c) j i d).length = (n + 1) * (n + 1) := by rw [limitL_len]; exact hl1
  rcases closeT_cases hl1 with ⟨a, hD⟩ | ⟨a, a0, hE⟩
  · rw [if_pos a]
    rcases closeT_cases hl2 with ⟨b, _⟩ | ⟨_, _, hE⟩
    · exact b
    · exact absurd (under_cut (limit_le hl1 hj hi d) hE.2.1) (hD _ hE.1)
  · rw [if_neg a0]
    refine closeT_congr hl2 (by rw [limitL_len]; exact a) fun X hX => ⟨fun hu => ?_, fun hu => ?_⟩
    · have h1 := under_cut (limit_le hl1 hj hi d) hu
      have h2 := hE.2.2 X hX h1
      intro p q hp hq
      have h3 := hu p q hp hq
      have h4 := h2 p q hp hq
      unfold cut clip at h3 ⊢
      rw [at_limit hl1 hj hi d hp hq] at h3
      rw [at_limit a hj hi d hp hq]
      split
      · next h =>
        rw [if_pos h] at h3
        rw [h.1, h.2] at h3 h4 ⊢
        omega
      · next h =>
        rw [if_neg h] at h3
        omega
    · intro p q hp hq
      have h3 := hu p q hp hq
      have h4 := hE.2.1 p q hp hq
      unfold cut clip at h3 h4 ⊢
      rw [at_limit a hj hi d hp hq] at h3
      rw [at_limit hl1 hj hi d hp hq]
      split
      · next h =>
        rw [if_pos h] at h3
        rw [h.1, h.2] at h3 h4 ⊢
        omega
      · next h =>
        rw [if_neg h] at h3
        omega
def run (n : Nat) : List (FuncId × (List Int → List Int)) → List Int → List Int
  | [], zs => zs
  | f :: fs, zs => if zs = [] then [] else run n fs (closeT n (f.2 zs))
theorem ev_done {n : Nat} (hn : n ≤ 8) : ∀ (fs : List (FuncId × (List Int → List Int))) (zs : List Int), (zs = [] ∨ zs.length = (n + 1) * (n + 1)) → (∀ f ∈ fs, ∀ ys : List Int, (f.2 ys).length = ys.length) → Ev (fun K => doneF K n fs zs) (run n fs zs)
  | [], zs, _, _ => Ev.const rfl
  | f :: fs, zs, h, hf => by
    unfold doneF run
    by_cases h0 : zs = []
    · simp only [if_pos h0]; exact Ev.const rfl
    · simp only [if_neg h0]
      have hl : (f.2 zs).length = (n + 1) * (n + 1) := by rw [hf f (List.mem_cons_self ..)]; exact h.resolve_left h0
      refine Ev.bind (ev_Close _ _) ?_
      rw [closeR_fit hn hl]
      simp only [true_and, if_pos (closeT_len n hl)]
      exact ev_done hn fs _ (closeT_len n hl) fun g hg => hf g (List.mem_cons_of_mem _ hg)
theorem ev_doneZ {n : Nat} (hn : n ≤ 8) {fs : List (FuncId × (List Int → List Int))} {zs : List Int} (h : zs = [] ∨ zs.length = (n + 1) * (n + 1)) {i j : Nat} (hi : i ≤ n) (hj : j ≤ n) (hf : ∀ f ∈ fs, ∀ ys : List Int, (f.2 ys).length = ys.length) : Ev (fun K => doneZ K (n : Int) zs (i : Int) (j : Int) fs) (run n fs zs) := by
  unfold doneZ
  have e : fitZ (n : Int) zs (i : Int) (j : Int) = true := by
    unfold fitZ
    rw [Int.toNat_natCast]
    simp only [Bool.and_eq_true, decide_eq_true_eq, Bool.or_eq_true, List.isEmpty_iff]
    exact ⟨⟨⟨⟨⟨⟨by omega, by omega⟩, by omega⟩, by omega⟩, by omega⟩, by omega⟩, h⟩
  simp only [e, if_pos, Int.toNat_natCast]
  exact ev_done hn fs zs h hf
def may (a i lo j : Int) : Int := if i < lo ∨ i > a ∨ j < 0 ∨ j > a then 1 else 0
theorem ev_may (a : Int) (xs : List Int) (i lo j : Int) : Ev (fun k => zone_may.f k a xs i lo j) (if isZone a xs = true then may a i lo j else 80) := by
  unfold zone_may.f
  refine Ev.bind (ev_Check a xs) ?_
  by_cases h : isZone a xs = true
  · simp only [if_pos h, if_pos]
    refine Ev.const ?_
    unfold may
    by_cases h1 : i < lo
    · simp [h1]
    · by_cases h2 : i > a
      · simp [h1, h2]
      · by_cases h3 : j < 0
        · simp [h1, h2, h3]
        · by_cases h4 : j > a
          · simp [h1, h2, h3, h4]
          · simp [h1, h2, h3, h4]
  · simp only [if_neg h, if_neg (show ¬ (80 : Int) = 0 by decide)]
    exact Ev.const rfl
theorem zone_fit {n : Nat} {xs : List Int} (h : isZone (n : Int) xs = true) : n ≤ 8 ∧ (xs = [] ∨ xs.length = (n + 1) * (n + 1)) := by
  obtain ⟨hn, hc⟩ := zone_len h
  exact ⟨hn, hc.elim .inl fun h => .inr h.2.1⟩
theorem free_len (i n : Nat) (xs : List Int) : ∀ k, (freeTo i n xs k).length = xs.length
  | 0 => rfl
  | k + 1 => by unfold freeTo; rw [List.length_set, List.length_set, free_len i n xs k]
theorem move_len (i n : Nat) (c : Int) (xs : List Int) : ∀ k, (moveTo i n c xs k).length = xs.length
  | 0 => rfl
  | k + 1 => by unfold moveTo; rw [List.length_set, List.length_set, move_len i n c xs k]
/-! what is made of a zone, in plain words -/
def limZ (n : Nat) (xs : List Int) (i j : Nat) (c : Int) : List Int := if xs = [] then [] else closeT n (limitL n xs i j c)
def freeZ (n : Nat) (xs : List Int) (i : Nat) : List Int := if xs = [] then [] else closeT n (freeTo i n xs (n + 1))
def letZ (n : Nat) (xs : List Int) (i j : Nat) (c : Int) : List Int :=
  if c > 2199023255552 ∨ c < -2199023255552 then [] else if i = j then (if xs = [] then [] else closeT n (moveTo i n c xs (n + 1))) else limZ n (limZ n (freeZ n xs i) i j c) j i (-c)
theorem limZ_fit {n : Nat} {xs : List Int} (h : xs = [] ∨ xs.length = (n + 1) * (n + 1)) (i j : Nat) (c : Int) : limZ n xs i j c = [] ∨ (limZ n xs i j c).length = (n + 1) * (n + 1) := by
  unfold limZ
  split
  · exact .inl rfl
  · next h0 => exact closeT_len n (by rw [limitL_len]; exact h.resolve_left h0)
theorem freeZ_fit {n : Nat} {xs : List Int} (h : xs = [] ∨ xs.length = (n + 1) * (n + 1)) (i : Nat) : freeZ n xs i = [] ∨ (freeZ n xs i).length = (n + 1) * (n + 1) := by
  unfold freeZ
  split
  · exact .inl rfl
  · next h0 => exact closeT_len n (by rw [free_len]; exact h.resolve_left h0)
theorem ev_Limit {n : Nat} {xs : List Int} (hz : isZone (n : Int) xs = true) {i j : Nat} (hi : i ≤ n) (hj : j ≤ n) (c : Int) : Ev (fun k => zone_Limit.f k (n : Int) xs (i : Int) (j : Int) c) ((n : Int), limZ n xs i j c, 0) := by
  obtain ⟨hn, hx⟩ := zone_fit hz
  unfold zone_Limit.f
  refine Ev.bind (ev_may _ _ _ _ _) ?_
  have e : (if isZone (n : Int) xs = true then may (n : Int) (i : Int) 0 (j : Int) else 80) = 0 := by
    rw [if_pos hz]; unfold may; rw [if_neg (by omega)]
  simp only [e, if_pos]
  refine Ev.bind (ev_doneZ hn hx hi hj (fun f hf ys => ?_)) ?_
  · rw [List.mem_singleton] at hf; subst hf; exact limitL_len ..
  · refine Ev.const ?_
    unfold run limZ limitS run
    simp only [Int.toNat_natCast]
theorem ev_Forget {n : Nat} {xs : List Int} (hz : isZone (n : Int) xs = true) {i : Nat} (hi : i ≤ n) (h1 : 1 ≤ i) : Ev (fun k => zone_Forget.f k (n : Int) xs (i : Int)) ((n : Int), freeZ n xs i, 0) := by
  obtain ⟨hn, hx⟩ := zone_fit hz
  unfold zone_Forget.f
  refine Ev.bind (ev_may _ _ _ _ _) ?_
  have e : (if isZone (n : Int) xs = true then may (n : Int) (i : Int) 1 0 else 80) = 0 := by
    rw [if_pos hz]; unfold may; rw [if_neg (by omega)]
  simp only [e, if_pos]
  refine Ev.bind (ev_doneZ hn hx (j := 0) hi (Nat.zero_le _) (fun f hf ys => ?_)) ?_
  · rw [List.mem_singleton] at hf; subst hf; exact free_len ..
  · refine Ev.const ?_
    unfold run freeZ freeS run
    simp only [Int.toNat_natCast]
theorem ev_Let {n : Nat} {xs : List Int} (hz : isZone (n : Int) xs = true) {i j : Nat} (hi : i ≤ n) (h1 : 1 ≤ i) (hj : j ≤ n) (c : Int) : Ev (fun k => zone_Let.f k (n : Int) xs (i : Int) (j : Int) c) ((n : Int), letZ n xs i j c, 0) := by
  obtain ⟨hn, hx⟩ := zone_fit hz
  unfold zone_Let.f
  refine Ev.bind (ev_may _ _ _ _ _) ?_
  have e : (if isZone (n : Int) xs = true then may (n : Int) (i : Int) 1 (j : Int) else 80) = 0 := by
    rw [if_pos hz]; unfold may; rw [if_neg (by omega)]
  simp only [e, if_pos]
  unfold letZ
  by_cases c1 : c > 2199023255552
  · simp only [if_pos c1, if_pos (show c > 2199023255552 ∨ c < -2199023255552 from .inl c1)]; exact Ev.const rfl
  · by_cases c2 : c < -2199023255552
    · simp only [if_neg c1, if_pos c2, if_pos (show c > 2199023255552 ∨ c < -2199023255552 from .inr c2)]; exact Ev.const rfl
    · simp only [if_neg c1, if_neg c2, if_neg (show ¬ (c > 2199023255552 ∨ c < -2199023255552) from fun h => h.elim c1 c2)]
      by_cases hij : i = j
      · simp only [if_pos (show (i : Int) = (j : Int) by omega), if_pos hij]
        refine Ev.bind (ev_doneZ hn hx hi hj (fun f hf ys => ?_)) ?_
        · rw [List.mem_singleton] at hf; subst hf; exact move_len ..
        · refine Ev.const ?_
          unfold run moveS run
          simp only [Int.toNat_natCast]
      · simp only [if_neg (show ¬ (i : Int) = (j : Int) by omega), if_neg hij]
        refine Ev.bind (ev_doneZ hn hx hi hj (fun f hf ys => ?_)) ?_
        · rw [List.mem_cons, List.mem_singleton] at hf
          rcases hf with rfl | rfl
          · exact free_len ..
          · show (limitL _ (limitL _ _ _ _ _) _ _ _).length = _
            rw [limitL_len, limitL_len]
        · refine Ev.const ?_
          unfold run freeS equalS
          simp only [Int.toNat_natCast, w64 (x := -c) (by omega) (by omega)]
          unfold run run
          by_cases h0 : xs = []
          · simp only [if_pos h0, freeZ, limZ]; rfl
          · simp only [if_neg h0, freeZ]
            have hl := hx.resolve_left h0
            rcases closeT_cases (n := n) (xs := freeTo i n xs (n + 1)) (by rw [free_len]; exact hl) with ⟨a, _⟩ | ⟨a, a0, _⟩
            · rw [a]; simp only [limZ, if_pos]
            · simp only [if_neg a0, limZ]
              rw [close_equal a hi hj]
end Go.Proofs.Ytgeemdpflcefkaa.DbmEv
/- chapter 09: what the made zones are, in plain words -/
namespace Go.Proofs.Ytgeemdpflcefkaa.DbmEv
open Go.RowKit Go.Proofs.Ytgeemdpflcefkaa.Y Go.Proofs.YtgeemdpflcefkaaW.PrintWords Go.Proofs.YtgeemdpflcefkaaW.PrintLast Go.Proofs.Ytgeemdpflcefkaa.DbmMath
theorem at_free {n : Nat} {xs : List Int} (hl : xs.length = (n + 1) * (n + 1)) {i : Nat} (hi : i ≤ n) : ∀ k, k ≤ n + 1 → ∀ a b, a ≤ n → b ≤ n → at_ n (freeTo i n xs k) a b = if (a = i ∧ b < k) ∨ (b = i ∧ a < k) then 4398046511104 else at_ n xs a b
  | 0, _, a, b, _, _ => by rw [if_neg (by omega)]; rfl
  | k + 1, hk, a, b, ha, hb => by
    have ih := at_free hl hi k (by omega) a b ha hb
    have hl1 : (freeTo i n xs k).length = (n + 1) * (n + 1) := by rw [free_len]; exact hl
    unfold freeTo
    rw [at_set (by rw [List.length_set]; exact hl1) (by omega) hi ha hb, at_set hl1 hi (by omega) ha hb, ih]
    by_cases h1 : a = k ∧ b = i
    · rw [if_pos h1, if_pos (by omega)]
    · rw [if_neg h1]
      by_cases h2 : a = i ∧ b = k
      · rw [if_pos h2, if_pos (by omega)]
      · rw [if_neg h2]
        by_cases h3 : (a = i ∧ b < k) ∨ (b = i ∧ a < k)
        · rw [if_pos h3, if_pos (by omega)]
        · rw [if_neg h3, if_neg (by omega)]
theorem at_freeAll {n : Nat} {xs : List Int} (hl : xs.length = (n + 1) * (n + 1)) {i : Nat} (hi : i ≤ n) {a b : Nat} (ha : a ≤ n) (hb : b ≤ n) : at_ n (freeTo i n xs (n + 1)) a b = if a = i ∨ b = i then 4398046511104 else at_ n xs a b := by
  rw [at_free hl hi (n + 1) (Nat.le_refl _) a b ha hb]
  by_cases h : a = i ∨ b = i
  · rw [if_pos h, if_pos (by omega)]
  · rw [if_neg h, if_neg (by omega)]
theorem move_skip {n : Nat} {xs : List Int} (hl : xs.length = (n + 1) * (n + 1)) {i : Nat} (hi : i ≤ n) (c : Int) (hc : -2199023255552 ≤ c ∧ c ≤ 2199023255552) (hd : at_ n xs i i = 0) : moveTo i n c xs (i + 1) = moveTo i n c xs i := by
  have keep : ∀ k, k ≤ i → at_ n (moveTo i n c xs k) i i = 0 := by
    intro k
    induction k with
    | zero => intro _; exact hd
    | succ k ih =>
      intro hk
      have hl1 : (moveTo i n c xs k).length = (n + 1) * (n + 1) := by rw [move_len]; exact hl
      unfold moveTo
      rw [at_set (by rw [List.length_set]; exact hl1) (by omega) hi hi hi, if_neg (by omega), at_set hl1 hi (by omega) hi hi, if_neg (by omega)]
      exact ih (by omega)
  have h0 := keep i (Nat.le_refl _)
  have hl1 : (moveTo i n c xs i).length = (n + 1) * (n + 1) := by rw [move_len]; exact hl
  have hp := place_lt hi hi
  unfold at_ at h0
  rw [moveTo, h0]
  have e1 : rd ((moveTo i n c xs i).set (i * (n + 1) + i) (wrap64 (0 + c))) ((i * (n + 1) + i : Nat) : Int) = wrap64 (0 + c) := by
    rw [rd_get (by rw [List.length_set]; omega), List.getElem_set_self]
  rw [e1, w64 (x := 0 + c) (by omega) (by omega), w64 (x := 0 + c - c) (by omega) (by omega), show 0 + c - c = 0 by omega, List.set_set]
  rw [rd_get (by omega)] at h0
  rw [← h0, List.set_getElem_self]
end Go.Proofs.Ytgeemdpflcefkaa.DbmEv
/- chapter 09: the reference's bound more -/
namespace Go.Proofs.Ytgeemdpflcefkaa.DbmEv
open Go.RowKit Go.Proofs.Ytgeemdpflcefkaa.Y Go.Proofs.YtgeemdpflcefkaaW.PrintWords Go.Proofs.YtgeemdpflcefkaaW.PrintLast Go.Proofs.Ytgeemdpflcefkaa.DbmMath
end Go.Proofs.Ytgeemdpflcefkaa.DbmEv
/- chapter 09: what the reference makes of a zone -/
namespace Go.Proofs.Ytgeemdpflcefkaa.DbmEv
open Go.RowKit Go.Proofs.Ytgeemdpflcefkaa.Y Go.Proofs.YtgeemdpflcefkaaW.PrintWords Go.Proofs.YtgeemdpflcefkaaW.PrintLast Go.Proofs.Ytgeemdpflcefkaa.DbmMath
end Go.Proofs.Ytgeemdpflcefkaa.DbmEv
/- chapter 09: what the program makes of two zones -/
namespace Go.Proofs.Ytgeemdpflcefkaa.DbmEv
open Go.RowKit Go.Proofs.Ytgeemdpflcefkaa.Y Go.Proofs.YtgeemdpflcefkaaW.PrintWords Go.Proofs.YtgeemdpflcefkaaW.PrintLast Go.Proofs.Ytgeemdpflcefkaa.DbmMath
def zp (F : Int → Int → Int) (xs ys : List Int) (p : Nat) : List Int := (List.range p).map fun q : Nat => F (rd xs (q : Int)) (rd ys (q : Int))
theorem zp_len (F : Int → Int → Int) (xs ys : List Int) (p : Nat) : (zp F xs ys p).length = p := by simp [zp]
theorem zp_succ (F : Int → Int → Int) (xs ys : List Int) (p : Nat) : zp F xs ys p ++ [F (rd xs (p : Int)) (rd ys (p : Int))] = zp F xs ys (p + 1) := by
  unfold zp; rw [List.range_succ, List.map_append, List.map_singleton]
theorem zp_set {F : Int → Int → Int} {xs ys : List Int} {p : Nat} (h : p < xs.length) : (zp F xs ys p ++ xs.drop p).set p (F (rd xs (p : Int)) (rd ys (p : Int))) = zp F xs ys (p + 1) ++ xs.drop (p + 1) := by
  rw [List.set_append_right _ _ (by rw [zp_len]; omega), zp_len, Nat.sub_self, List.drop_eq_getElem_cons h, List.set_cons_zero, ← zp_succ, List.append_assoc, List.singleton_append]
theorem zp_rd {F : Int → Int → Int} {xs ys : List Int} {p : Nat} (h : p < xs.length) : rd (zp F xs ys p ++ xs.drop p) (p : Int) = rd xs (p : Int) := by
  rw [rd_nat, rd_nat, List.getD_eq_getElem?_getD, List.getD_eq_getElem?_getD, List.getElem?_append_right (by rw [zp_len]; omega), zp_len, Nat.sub_self, List.getElem?_drop, Nat.add_zero]
theorem zp_drop_len {F : Int → Int → Int} {xs ys : List Int} {p : Nat} (h : p ≤ xs.length) : (zp F xs ys p ++ xs.drop p).length = xs.length := by
  rw [List.length_append, zp_len, List.length_drop]; omega
theorem at_zp {F : Int → Int → Int} {n : Nat} {xs ys : List Int} {i j : Nat} (hi : i ≤ n) (hj : j ≤ n) : at_ n (zp F xs ys ((n + 1) * (n + 1))) i j = F (at_ n xs i j) (at_ n ys i j) := by
  have hlt := place_lt hi hj
  unfold at_ zp
  rw [rd_nat, List.getD_eq_getElem?_getD, List.getElem?_map, List.getElem?_range hlt]
  rfl
def two (a : Int) (xs : List Int) (b : Int) (ys : List Int) : Int := if isZone a xs = true ∧ isZone b ys = true then (if a = b then 0 else 1) else 80
theorem ev_two (a : Int) (xs : List Int) (b : Int) (ys : List Int) : Ev (fun k => zone_two.f k a xs b ys) (two a xs b ys) := by
  unfold zone_two.f
  refine Ev.bind (ev_Check a xs) ?_
  by_cases h : isZone a xs = true
  · simp only [if_pos h, if_pos]
    refine Ev.bind (ev_Check b ys) ?_
    refine Ev.succ (fun k => by rw [zone_two.j0]) ?_
    refine Ev.const ?_
    unfold two
    by_cases h2 : isZone b ys = true
    · simp [h, h2]; split <;> rfl
    · simp [h, h2]
  · simp only [if_neg h, if_neg (show ¬ (80 : Int) = 0 by decide)]
    refine Ev.succ (fun k => by rw [zone_two.j0]) ?_
    refine Ev.const ?_
    unfold two
    simp [h]
/-- Two zones of the same variables. -/
theorem two_cases {a b : Int} {xs ys : List Int} (h : two a xs b ys = 0) : a = b ∧ isZone a xs = true ∧ isZone b ys = true := by
  unfold two at h
  split at h
  · next h1 =>
    split at h
    · next h2 => exact ⟨h2, h1⟩
    · exact absurd h (by decide)
  · exact absurd h (by decide)
theorem ev_mixed_v0 {n : Nat} (hn : n ≤ 8) {xs ys : List Int} (hx : xs.length = (n + 1) * (n + 1)) (hy : ys.length = (n + 1) * (n + 1)) (b : Int) : Ev (fun k => zone_mixed_v0.f k (n : Int) xs b ys) ((n : Int), closeT n (zp mn xs ys ((n + 1) * (n + 1)))) := by
  have hs := size_le hn
  unfold zone_mixed_v0.f
  simp only [clone_f (show xs.length < 17592186044416 by omega), Option.bind_some]
  have key := Ev.up0 (l := fun k i => zone_mixed_v0.l0 k (zp mn xs ys i ++ xs.drop i) (xs.length : Int) (i : Int) (n : Int) xs b ys) (N := xs.length) (r := ((n : Int), closeT n (zp mn xs ys ((n + 1) * (n + 1))))) ?_ ?_
  · have e0 : zp mn xs ys 0 ++ xs.drop 0 = xs := by simp [zp]
    rw [e0] at key
    exact key
  · refine Ev.succ (fun k => by rw [zone_mixed_v0.l0]) ?_
    simp only [if_neg (Int.lt_irrefl _), List.drop_length, List.append_nil]
    rw [hx]
    refine Ev.bind (ev_Close _ _) ?_
    rw [closeR_fit hn (zp_len _ _ _ _)]
    exact Ev.const rfl
  · intro i hi h
    refine Ev.succ (fun k => by rw [zone_mixed_v0.l0]) ?_
    have hd := zp_drop_len (F := mn) (xs := xs) (ys := ys) (p := i) (by omega)
    simp only [if_pos (show (i : Int) < (xs.length : Int) by omega), if_pos (show (0 : Int) ≤ (i : Int) by omega), hd, if_pos (show (i : Int) < (ys.length : Int) by omega), zp_rd hi, Int.toNat_natCast, succ_nat i (by omega)]
    have e : zone_Meet_1.f (rd xs (i : Int)) (rd ys (i : Int)) = some (mn (rd xs (i : Int)) (rd ys (i : Int))) := rfl
    simp only [e, Option.bind_some]
    rw [zp_set hi]
    exact h
theorem ev_both_v0 {n : Nat} {xs ys : List Int} (hzx : isZone (n : Int) xs = true) (hzy : isZone (n : Int) ys = true) (c : Bool) : Ev (fun k => zone_both_v0.f k (n : Int) xs (n : Int) ys c) ((n : Int), (if xs = [] ∨ ys = [] then (if c = true then (if xs = [] then ys else xs) else []) else closeT n (zp mn xs ys ((n + 1) * (n + 1)))), 0) := by
  unfold zone_both_v0.f
  refine Ev.bind (ev_two _ _ _ _) ?_
  have e : two (n : Int) xs (n : Int) ys = 0 := by unfold two; rw [if_pos ⟨hzx, hzy⟩, if_pos rfl]
  obtain ⟨hn, hx⟩ := zone_len hzx
  obtain ⟨_, hy⟩ := zone_len hzy
  have hs := size_le hn
  have hx1 : xs.length ≤ 81 := by rcases hx with h | ⟨_, h, _⟩ <;> rw [h] <;> first | omega | exact Nat.zero_le _
  have hy1 : ys.length ≤ 81 := by rcases hy with h | ⟨_, h, _⟩ <;> rw [h] <;> first | omega | exact Nat.zero_le _
  simp only [e, if_pos]
  have no : xs = [] ∨ ys = [] → Ev (fun k => zone_both_v0.j0 k c false (n : Int) xs (n : Int) ys) ((n : Int), (if xs = [] ∨ ys = [] then (if c = true then (if xs = [] then ys else xs) else []) else closeT n (zp mn xs ys ((n + 1) * (n + 1)))), 0) := by
    intro hor
    refine Ev.succ (fun k => by rw [zone_both_v0.j0]) ?_
    simp only [if_neg Bool.false_ne_true, if_pos hor, clone_f (show xs.length < 17592186044416 by omega), clone_f (show ys.length < 17592186044416 by omega), Option.bind_some, zone_empty.f]
    refine Ev.const ?_
    have e2 : ((xs.length : Int) = 0) ↔ xs = [] := ⟨fun h => List.eq_nil_of_length_eq_zero (by omega), fun h => by rw [h]; rfl⟩
    simp only [e2]
    cases c <;> simp
    split <;> rfl
  rcases hx with hx | ⟨hx, hlx, _⟩
  · simp only [if_neg (show ¬ (xs.length : Int) > 0 by rw [hx]; simp)]
    exact no (.inl hx)
  · simp only [if_pos (show (xs.length : Int) > 0 by have := List.length_pos_iff.2 hx; omega)]
    rcases hy with hy | ⟨hy, hly, _⟩
    · rw [show decide ((ys.length : Int) > 0) = false by rw [hy]; rfl]
      exact no (.inr hy)
    · rw [show decide ((ys.length : Int) > 0) = true by have := List.length_pos_iff.2 hy; exact decide_eq_true (by omega)]
      refine Ev.succ (fun k => by rw [zone_both_v0.j0]) ?_
      simp only [if_pos, if_neg (show ¬ (xs = [] ∨ ys = []) from fun h => h.elim hx hy)]
      exact Ev.bind (ev_mixed_v0 hn hlx hly _) (Ev.const rfl)
theorem ev_Meet {n : Nat} {xs ys : List Int} (hzx : isZone (n : Int) xs = true) (hzy : isZone (n : Int) ys = true) : Ev (fun k => zone_Meet.f k (n : Int) xs (n : Int) ys) ((n : Int), (if xs = [] ∨ ys = [] then [] else closeT n (zp mn xs ys ((n + 1) * (n + 1)))), 0) := by
  unfold zone_Meet.f
  have h := ev_both_v0 hzx hzy false
  simp only [if_neg Bool.false_ne_true] at h
  exact Ev.bind h (Ev.const rfl)
theorem ev_mixed_v1 {n : Nat} (hn : n ≤ 8) {xs ys : List Int} (hx : xs.length = (n + 1) * (n + 1)) (hy : ys.length = (n + 1) * (n + 1)) (b : Int) : Ev (fun k => zone_mixed_v1.f k (n : Int) xs b ys) ((n : Int), closeT n (zp mx xs ys ((n + 1) * (n + 1)))) := by
  have hs := size_le hn
  unfold zone_mixed_v1.f
  simp only [clone_f (show xs.length < 17592186044416 by omega), Option.bind_some]
  have key := Ev.up0 (l := fun k i => zone_mixed_v1.l0 k (zp mx xs ys i ++ xs.drop i) (xs.length : Int) (i : Int) (n : Int) xs b ys) (N := xs.length) (r := ((n : Int), closeT n (zp mx xs ys ((n + 1) * (n + 1))))) ?_ ?_
  · have e0 : zp mx xs ys 0 ++ xs.drop 0 = xs := by simp [zp]
    rw [e0] at key
    exact key
  · refine Ev.succ (fun k => by rw [zone_mixed_v1.l0]) ?_
    simp only [if_neg (Int.lt_irrefl _), List.drop_length, List.append_nil]
    rw [hx]
    refine Ev.bind (ev_Close _ _) ?_
    rw [closeR_fit hn (zp_len _ _ _ _)]
    exact Ev.const rfl
  · intro i hi h
    refine Ev.succ (fun k => by rw [zone_mixed_v1.l0]) ?_
    have hd := zp_drop_len (F := mx) (xs := xs) (ys := ys) (p := i) (by omega)
    simp only [if_pos (show (i : Int) < (xs.length : Int) by omega), if_pos (show (0 : Int) ≤ (i : Int) by omega), hd, if_pos (show (i : Int) < (ys.length : Int) by omega), zp_rd hi, Int.toNat_natCast, succ_nat i (by omega)]
    have e : zone_Join_1.f (rd xs (i : Int)) (rd ys (i : Int)) = some (mx (rd xs (i : Int)) (rd ys (i : Int))) := rfl
    simp only [e, Option.bind_some]
    rw [zp_set hi]
    exact h
theorem ev_both_v1 {n : Nat} {xs ys : List Int} (hzx : isZone (n : Int) xs = true) (hzy : isZone (n : Int) ys = true) (c : Bool) : Ev (fun k => zone_both_v1.f k (n : Int) xs (n : Int) ys c) ((n : Int), (if xs = [] ∨ ys = [] then (if c = true then (if xs = [] then ys else xs) else []) else closeT n (zp mx xs ys ((n + 1) * (n + 1)))), 0) := by
  unfold zone_both_v1.f
  refine Ev.bind (ev_two _ _ _ _) ?_
  have e : two (n : Int) xs (n : Int) ys = 0 := by unfold two; rw [if_pos ⟨hzx, hzy⟩, if_pos rfl]
  obtain ⟨hn, hx⟩ := zone_len hzx
  obtain ⟨_, hy⟩ := zone_len hzy
  have hs := size_le hn
  have hx1 : xs.length ≤ 81 := by rcases hx with h | ⟨_, h, _⟩ <;> rw [h] <;> first | omega | exact Nat.zero_le _
  have hy1 : ys.length ≤ 81 := by rcases hy with h | ⟨_, h, _⟩ <;> rw [h] <;> first | omega | exact Nat.zero_le _
  simp only [e, if_pos]
  have no : xs = [] ∨ ys = [] → Ev (fun k => zone_both_v1.j0 k c false (n : Int) xs (n : Int) ys) ((n : Int), (if xs = [] ∨ ys = [] then (if c = true then (if xs = [] then ys else xs) else []) else closeT n (zp mx xs ys ((n + 1) * (n + 1)))), 0) := by
    intro hor
    refine Ev.succ (fun k => by rw [zone_both_v1.j0]) ?_
    simp only [if_neg Bool.false_ne_true, if_pos hor, clone_f (show xs.length < 17592186044416 by omega), clone_f (show ys.length < 17592186044416 by omega), Option.bind_some, zone_empty.f]
    refine Ev.const ?_
    have e2 : ((xs.length : Int) = 0) ↔ xs = [] := ⟨fun h => List.eq_nil_of_length_eq_zero (by omega), fun h => by rw [h]; rfl⟩
    simp only [e2]
    cases c <;> simp
    split <;> rfl
  rcases hx with hx | ⟨hx, hlx, _⟩
  · simp only [if_neg (show ¬ (xs.length : Int) > 0 by rw [hx]; simp)]
    exact no (.inl hx)
  · simp only [if_pos (show (xs.length : Int) > 0 by have := List.length_pos_iff.2 hx; omega)]
    rcases hy with hy | ⟨hy, hly, _⟩
    · rw [show decide ((ys.length : Int) > 0) = false by rw [hy]; rfl]
      exact no (.inr hy)
    · rw [show decide ((ys.length : Int) > 0) = true by have := List.length_pos_iff.2 hy; exact decide_eq_true (by omega)]
      refine Ev.succ (fun k => by rw [zone_both_v1.j0]) ?_
      simp only [if_pos, if_neg (show ¬ (xs = [] ∨ ys = []) from fun h => h.elim hx hy)]
      exact Ev.bind (ev_mixed_v1 hn hlx hly _) (Ev.const rfl)
theorem ev_Join {n : Nat} {xs ys : List Int} (hzx : isZone (n : Int) xs = true) (hzy : isZone (n : Int) ys = true) : Ev (fun k => zone_Join.f k (n : Int) xs (n : Int) ys) ((n : Int), (if xs = [] ∨ ys = [] then (if xs = [] then ys else xs) else closeT n (zp mx xs ys ((n + 1) * (n + 1)))), 0) := by
  unfold zone_Join.f
  have h := ev_both_v1 hzx hzy true
  simp only [if_pos] at h
  exact Ev.bind h (Ev.const rfl)
end Go.Proofs.Ytgeemdpflcefkaa.DbmEv
