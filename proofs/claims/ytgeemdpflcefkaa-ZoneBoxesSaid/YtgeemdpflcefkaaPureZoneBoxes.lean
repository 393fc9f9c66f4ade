/- ZoneBoxes: the zone of any intervals: each variable's values are its interval's, and it has what is in all of them. -/
import Derived.Test.YtgeemdpflcefkaaZx0
import Derived.Test.YtgeemdpflcefkaaZx4
import Derived.Test.YtgeemdpflcefkaaZx5
import Derived.Test.YtgeemdpflcefkaaZx12
import Derived.Test.YtgeemdpflcefkaaZx18
import Derived.Test.YtgeemdpflcefkaaZx32
import Derived.Test.YtgeemdpflcefkaaZx44
import Derived.Test.YtgeemdpflcefkaaZx45
import Derived.Test.YtgeemdpflcefkaaZoneHad
import Derived.Test.YtgeemdpflcefkaaZoneDbm
import Derived.Test.YtgeemdpflcefkaaZoneLate2
import Derived.Test.YtgeemdpflcefkaaZoneRefLim
set_option linter.unusedVariables false
set_option linter.unusedSimpArgs false
namespace Go.Proofs.Ytgeemdpflcefkaa.DbmEv
open Go.RowKit Go.Proofs.Ytgeemdpflcefkaa.Z Go.Proofs.YtgeemdpflcefkaaW.PrintWords Go.Proofs.YtgeemdpflcefkaaW.PrintLast Go.Proofs.Ytgeemdpflcefkaa.DbmMath
theorem Ev.ofEq {α : Type} {g : Nat → Option α} {r s : α} (h : Ev g r) (e : r = s) : Ev g s := e ▸ h
theorem closure_zone' {n : Nat} {zs : List Int} {c : Mat} (hl : zs.length = (n + 1) * (n + 1)) (hD : IsClosure n c (at_ n zs)) (hc : ∀ i j, c i j ≤ far i j := by exact fun i j => cut_le _ _ i j) : zs.length = (n + 1) * (n + 1) ∧ True ∧ IsClosure n (cut n zs) (at_ n zs) := by
  refine ⟨hl, trivial, hD.1, fun i j hi hj => ?_, fun X hX hu i j hi hj => ?_⟩
  · unfold cut; rw [closure_cut hD hc hi hj]; exact Int.le_refl _
  · have := hu i j hi hj
    unfold cut at this
    rwa [closure_cut hD hc hi hj] at this
/-! ### plain intervals -/
def pl (a b : Int) : Int × Int := if max a (-1099511627776) > min b 1099511627776 then (1, 0) else (max a (-1099511627776), min b 1099511627776)
theorem pl_range (a b : Int) : -1099511627776 ≤ (pl a b).1 ∧ (pl a b).1 ≤ 1099511627776 ∧ -1099511627776 ≤ (pl a b).2 ∧ (pl a b).2 ≤ 1099511627776 := by
  unfold pl
  split
  · exact ⟨by decide, by decide, by decide, by decide⟩
  · refine ⟨?_, ?_, ?_, ?_⟩ <;> simp only <;> omega
theorem itvOf_f (a b : Int) : itv_Of.f a b = some (pl a b) := by
  unfold itv_Of.f pl
  rw [mx_eq, mn_eq]
  split
  · simp only [itv_None.f, Option.bind_some]
  · rfl
theorem itvHas_f (a b x : Int) : itv_Has.f a b x = some (decide ((pl a b).1 ≤ x ∧ x ≤ (pl a b).2)) := by
  unfold itv_Has.f itv_plain.f
  simp only [itvOf_f, Option.bind_some]
  by_cases h : x ≥ (pl a b).1
  · rw [if_pos h]
    simp [show (pl a b).1 ≤ x from h]
  · rw [if_neg h, decide_eq_false (fun h2 => h h2.1)]
theorem neg_f {t : Int} (h : -1099511627776 ≤ t ∧ t ≤ 1099511627776) : val_Neg.f t = some (-t) := by
  unfold val_Neg.f val_Clip.f
  rw [mx_eq, mn_eq]
  simp only [Option.bind_some, show min (max t (-1099511627776)) 1099511627776 = t by omega, w64 (x := -t) (by omega) (by omega)]
theorem ev_refPlain (a b : Int) : Ev (fun k => warrantorref07_Plain.f k a b) (pl a b) := by
  unfold warrantorref07_Plain.f
  have no : pl a b = (1, 0) → Ev (fun k => warrantorref07_Of.j0 k a b true) (pl a b) := by
    intro e
    refine Ev.succ (fun k => by rw [warrantorref07_Of.j0]) ?_
    simp only [if_pos, warrantorref07_None.f, Option.bind_some]
    exact Ev.const (by rw [e])
  have key : Ev (fun k => warrantorref07_Of.f k a b) (pl a b) := by
    unfold warrantorref07_Of.f
    by_cases h1 : a > b
    · simp only [if_pos h1]
      exact no (by unfold pl; rw [if_pos (by omega)])
    · simp only [if_neg h1]
      by_cases h2 : a > 1099511627776
      · simp only [if_pos h2]
        exact no (by unfold pl; rw [if_pos (by omega)])
      · simp only [if_neg h2]
        by_cases h3 : b < -1099511627776
        · simp only [decide_eq_true h3]
          exact no (by unfold pl; rw [if_pos (by omega)])
        · simp only [decide_eq_false h3]
          refine Ev.succ (fun k => by rw [warrantorref07_Of.j0]) ?_
          have ea : warrantorref06_Clip.f a = some (max a (-1099511627776)) := by
            unfold warrantorref06_Clip.f
            rw [if_neg h2]
            split
            · rw [show max a (-1099511627776) = -1099511627776 by omega]
            · rw [show max a (-1099511627776) = a by omega]
          have eb : warrantorref06_Clip.f b = some (min b 1099511627776) := by
            unfold warrantorref06_Clip.f
            split
            · rw [show min b 1099511627776 = 1099511627776 by omega]
            · rw [show min b 1099511627776 = b by omega]
          simp only [if_neg Bool.false_ne_true, ea, eb, Option.bind_some]
          refine Ev.const ?_
          unfold pl
          rw [if_neg (by omega)]
  exact Ev.bind key (Ev.const rfl)
/-! ### the zone of all, with bounds more -/
def allM (n : Nat) : List Int := eachTo (fun _ => mostF) n (List.replicate ((n + 1) * (n + 1)) 0) ((n + 1) * (n + 1))
theorem allM_len (n : Nat) : (allM n).length = (n + 1) * (n + 1) := by unfold allM; rw [eachTo_length, List.length_replicate]
theorem at_allM {n i j : Nat} (hi : i ≤ n) (hj : j ≤ n) : at_ n (allM n) i j = far i j := eachTo_all (G := far) List.length_replicate (fun ys i j _ _ _ _ => mostF_eq i j) hi hj
def lo (v : S39) : Int := (pl v.f0 v.f1).1
def hi (v : S39) : Int := (pl v.f0 v.f1).2
def boxL (n : Nat) : Nat → List S39 → List Int → List Int
  | _, [], zs => zs
  | i, v :: vs, zs => boxL n (i + 1) vs (limitL n (limitL n zs (i + 1) 0 (hi v)) 0 (i + 1) (-(lo v)))
theorem boxL_len (n : Nat) : ∀ (vs : List S39) (i : Nat) (zs : List Int), (boxL n i vs zs).length = zs.length
  | [], _, _ => rfl
  | v :: vs, i, zs => by unfold boxL; rw [boxL_len n vs, limitL_len, limitL_len]
theorem boxF_eq (n : Nat) : ∀ (vs : List S39) (i : Nat) (zs : List Int), boxF n i vs zs = some (boxL n i vs zs)
  | [], _, _ => rfl
  | v :: vs, i, zs => by
    unfold boxF boxL
    have h := pl_range v.f0 v.f1
    simp only [itvOf_f, Option.bind_some, neg_f ⟨h.1, h.2.1⟩, boxF_eq n vs, lo, hi]
def UL (i j : Nat) (c : Int) (X : Mat) : Prop := X i j ≤ max (min c (far i j)) B
theorem under_limit {n : Nat} {X : Mat} {xs : List Int} (hl : xs.length = (n + 1) * (n + 1)) {i j : Nat} (hi : i ≤ n) (hj : j ≤ n) (c : Int) : Under n X (cut n (limitL n xs i j c)) ↔ Under n X (cut n xs) ∧ UL i j c X := by
  constructor
  · intro h
    refine ⟨under_cut (limit_le hl hi hj c) h, ?_⟩
    have := h i j hi hj
    unfold cut clip at this
    rw [at_limit hl hi hj c hi hj, if_pos ⟨rfl, rfl⟩] at this
    unfold UL
    omega
  · rintro ⟨h, hu⟩ a b ha hb
    have h1 := h a b ha hb
    unfold cut clip at h1 ⊢
    rw [at_limit hl hi hj c ha hb]
    split
    · next he =>
      obtain ⟨rfl, rfl⟩ := he
      unfold UL at hu
      omega
    · exact h1
theorem box_under {n : Nat} {X : Mat} : ∀ (vs : List S39) (i : Nat) (zs : List Int), zs.length = (n + 1) * (n + 1) → i + vs.length ≤ n → (Under n X (cut n (boxL n i vs zs)) ↔ Under n X (cut n zs) ∧ ∀ k (h : k < vs.length), UL (i + k + 1) 0 (hi vs[k]) X ∧ UL 0 (i + k + 1) (-(lo vs[k])) X)
  | [], i, zs, _, _ => ⟨fun h => ⟨h, fun k hk => absurd hk (Nat.not_lt_zero k)⟩, fun h => h.1⟩
  | v :: vs, i, zs, hl, hn => by
    rw [List.length_cons] at hn
    have hl1 : (limitL n zs (i + 1) 0 (hi v)).length = (n + 1) * (n + 1) := by rw [limitL_len]; exact hl
    unfold boxL
    rw [box_under vs (i + 1) _ (by rw [limitL_len]; exact hl1) (by omega), under_limit hl1 (Nat.zero_le _) (by omega), under_limit hl (by omega) (Nat.zero_le _)]
    constructor
    · rintro ⟨⟨⟨h1, h2⟩, h3⟩, h4⟩
      refine ⟨h1, fun k hk => ?_⟩
      cases k with
      | zero => exact ⟨h2, h3⟩
      | succ k =>
        have := h4 k (by simpa using hk)
        rw [show i + 1 + k + 1 = i + (k + 1) + 1 by omega] at this
        exact this
    · rintro ⟨h1, h2⟩
      have h0 := h2 0 (by simp)
      refine ⟨⟨⟨h1, h0.1⟩, h0.2⟩, fun k hk => ?_⟩
      have := h2 (k + 1) (by simpa using hk)
      rw [show i + (k + 1) + 1 = i + 1 + k + 1 by omega] at this
      exact this
theorem val_limit {n : Nat} {xs v : List Int} (hl : xs.length = (n + 1) * (n + 1)) {i j : Nat} (hi : i ≤ n) (hj : j ≤ n) (c : Int) : Val n (at_ n (limitL n xs i j c)) v ↔ Val n (at_ n xs) v ∧ wv v i - wv v j ≤ c := by
  have h0 : ¬ xs = [] := fun h => by rw [h] at hl; simp at hl
  have := hasP_lim (v := v) (.inr hl) hi hj c
  unfold limZ at this
  rw [if_neg h0, hasP_close (by rw [limitL_len]; exact hl)] at this
  rw [this]
  exact ⟨fun h => ⟨h.1.2, h.2⟩, fun h => ⟨⟨h0, h.1⟩, h.2⟩⟩
theorem box_val {n : Nat} {u : List Int} : ∀ (vs : List S39) (i : Nat) (zs : List Int), zs.length = (n + 1) * (n + 1) → i + vs.length ≤ n → (Val n (at_ n (boxL n i vs zs)) u ↔ Val n (at_ n zs) u ∧ ∀ k (h : k < vs.length), lo vs[k] ≤ wv u (i + k + 1) ∧ wv u (i + k + 1) ≤ hi vs[k])
  | [], i, zs, _, _ => ⟨fun h => ⟨h, fun k hk => absurd hk (Nat.not_lt_zero k)⟩, fun h => h.1⟩
  | v :: vs, i, zs, hl, hn => by
    rw [List.length_cons] at hn
    have hl1 : (limitL n zs (i + 1) 0 (hi v)).length = (n + 1) * (n + 1) := by rw [limitL_len]; exact hl
    unfold boxL
    rw [box_val vs (i + 1) _ (by rw [limitL_len]; exact hl1) (by omega), val_limit hl1 (Nat.zero_le _) (by omega), val_limit hl (by omega) (Nat.zero_le _), wv_zero]
    constructor
    · rintro ⟨⟨⟨h1, h2⟩, h3⟩, h4⟩
      refine ⟨h1, fun k hk => ?_⟩
      cases k with
      | zero => exact ⟨by show lo v ≤ wv u (i + 1); omega, by show wv u (i + 1) ≤ hi v; omega⟩
      | succ k =>
        have := h4 k (by simpa using hk)
        rw [show i + 1 + k + 1 = i + (k + 1) + 1 by omega] at this
        exact this
    · rintro ⟨h1, h2⟩
      have h0 : lo v ≤ wv u (i + 1) ∧ wv u (i + 1) ≤ hi v := h2 0 (by simp)
      refine ⟨⟨⟨h1, by omega⟩, by omega⟩, fun k hk => ?_⟩
      have := h2 (k + 1) (by simpa using hk)
      rw [show i + (k + 1) + 1 = i + 1 + k + 1 by omega] at this
      exact this
theorem val_all {n : Nat} {u : List Int} : Val n (at_ n (allM n)) u ↔ ∀ a, a ≤ n → -1099511627776 ≤ wv u a ∧ wv u a ≤ 1099511627776 := by
  refine ⟨fun h => h.1, fun h => ⟨h, fun a b ha hb => ?_⟩⟩
  rw [at_allM ha hb]
  have := h a ha
  have := h b hb
  unfold far
  by_cases e1 : a = b
  · rw [if_pos e1, e1]; omega
  · rw [if_neg e1]
    by_cases e2 : a = 0
    · rw [if_pos e2, e2, wv_zero]; omega
    · rw [if_neg e2]
      by_cases e3 : b = 0
      · rw [if_pos e3, e3, wv_zero]; omega
      · rw [if_neg e3]; omega
/-- The zone of intervals. -/
def boxT (l : List S39) : List Int := closeT l.length (boxL l.length 0 l (allM l.length))
theorem boxM_len (l : List S39) : (boxL l.length 0 l (allM l.length)).length = (l.length + 1) * (l.length + 1) := by rw [boxL_len, allM_len]
theorem ev_Box {l : List S39} (hn : l.length ≤ 8) : Ev (fun k => zone_Box.f k l) ((l.length : Int), boxT l, 0) := by
  unfold zone_Box.f
  have hv : vars (l.length : Int) = true := decide_eq_true (by omega)
  have ha := allM_len l.length
  simp only [all_f, if_pos hv, Option.bind_some, Int.toNat_natCast, if_pos, hn]
  have e : ((l.length : Int) = (l.length : Int) ∧ True ∧ (eachTo (fun _ => mostF) l.length (List.replicate ((l.length + 1) * (l.length + 1)) 0) ((l.length + 1) * (l.length + 1))).length = (l.length + 1) * (l.length + 1)) := ⟨rfl, trivial, ha⟩
  simp only [true_and, if_pos ha, boxF_eq, Option.bind_some, eachTo_length, List.length_replicate, if_pos]
  refine Ev.ofEq (ev_Close _ _) ?_
  exact closeR_fit hn (boxM_len l)
theorem hasP_box {l : List S39} {u : List Int} (hu : u.length = l.length) : hasP l.length (boxT l) u ↔ ∀ k (h : k < l.length), lo l[k] ≤ wv u (k + 1) ∧ wv u (k + 1) ≤ hi l[k] := by
  unfold boxT
  rw [hasP_close (boxM_len l), box_val l 0 _ (allM_len _) (by omega), val_all]
  simp only [Nat.zero_add]
  refine ⟨fun h => h.2, fun h => ⟨fun a ha => ?_, h⟩⟩
  cases a with
  | zero => rw [wv_zero]; omega
  | succ a =>
    have h1 := h a (by omega)
    have h2 := pl_range (l[a]'(by omega)).f0 (l[a]'(by omega)).f1
    unfold lo hi at h1
    omega
/-! ### the reference's -/
theorem under_close {n : Nat} {zs : List Int} (hl : zs.length = (n + 1) * (n + 1)) {X : Mat} (hX : Closed n X) : (¬ closeT n zs = [] ∧ Under n X (cut n (closeT n zs))) ↔ Under n X (cut n zs) := by
  rcases closeT_cases hl with ⟨a, hD⟩ | ⟨a, a0, hD⟩
  · exact ⟨fun h => absurd a h.1, fun h => absurd h (hD X hX)⟩
  · obtain ⟨_, _, hC⟩ := closure_zone' a hD
    constructor
    · rintro ⟨_, h⟩ p q hp hq
      exact Int.le_trans (hC.2.2 X hX h p q hp hq) (hD.2.1 p q hp hq)
    · intro h
      refine ⟨a0, fun p q hp hq => Int.le_trans (hD.2.2 X hX h p q hp hq) (hC.2.1 p q hp hq)⟩
theorem under_lim {n : Nat} {xs : List Int} (h : xs = [] ∨ xs.length = (n + 1) * (n + 1)) {i j : Nat} (hi : i ≤ n) (hj : j ≤ n) (c : Int) {X : Mat} (hX : Closed n X) : (¬ limZ n xs i j c = [] ∧ Under n X (cut n (limZ n xs i j c))) ↔ (¬ xs = [] ∧ Under n X (cut n xs)) ∧ UL i j c X := by
  unfold limZ
  by_cases h0 : xs = []
  · rw [if_pos h0]
    exact ⟨fun h => absurd rfl h.1, fun h => absurd h0 h.1.1⟩
  · have hl := h.resolve_left h0
    rw [if_neg h0, under_close (by rw [limitL_len]; exact hl) hX, under_limit hl hi hj]
    exact ⟨fun h => ⟨⟨h0, h.1⟩, h.2⟩, fun h => ⟨h.1.2, h.2⟩⟩
def refB (l : List S39) : Nat → List Int
  | 0 => allM l.length
  | k + 1 => limZ l.length (limZ l.length (refB l k) (k + 1) 0 (hi (rd_T39 l (k : Int)))) 0 (k + 1) (-(lo (rd_T39 l (k : Int))))
theorem refB_fit (l : List S39) : ∀ k, refB l k = [] ∨ (refB l k).length = (l.length + 1) * (l.length + 1)
  | 0 => .inr (allM_len _)
  | k + 1 => limZ_fit (limZ_fit (refB_fit l k) _ _ _) _ _ _
theorem rdT_get {l : List S39} {k : Nat} (h : k < l.length) : rd_T39 l (k : Int) = l[k] := by
  unfold rd_T39
  rw [Int.toNat_natCast, List.getD_eq_getElem?_getD, List.getElem?_eq_getElem h, Option.getD_some]
theorem refB_under {l : List S39} {X : Mat} (hX : Closed l.length X) : ∀ k, k ≤ l.length → ((¬ refB l k = [] ∧ Under l.length X (cut l.length (refB l k))) ↔ Under l.length X (cut l.length (allM l.length)) ∧ ∀ m (_ : m < k) (h : m < l.length), UL (m + 1) 0 (hi l[m]) X ∧ UL 0 (m + 1) (-(lo l[m])) X)
  | 0, _ => by
    have h0 : ¬ allM l.length = [] := fun h => by have := allM_len l.length; rw [h] at this; simp at this
    exact ⟨fun h => ⟨h.2, fun m hm => absurd hm (Nat.not_lt_zero m)⟩, fun h => ⟨h0, h.1⟩⟩
  | k + 1, hk => by
    unfold refB
    rw [under_lim (limZ_fit (refB_fit l k) _ _ _) (Nat.zero_le _) (by omega) _ hX, under_lim (refB_fit l k) (by omega) (Nat.zero_le _) _ hX, refB_under hX k (by omega), rdT_get (show k < l.length by omega)]
    constructor
    · rintro ⟨⟨⟨h1, h2⟩, h3⟩, h4⟩
      refine ⟨h1, fun m hm h => ?_⟩
      rcases Nat.lt_or_ge m k with hlt | hge
      · exact h2 m hlt h
      · have : m = k := by omega
        subst this
        exact ⟨h3, h4⟩
    · rintro ⟨h1, h2⟩
      have h3 := h2 k (by omega) (by omega)
      exact ⟨⟨⟨h1, fun m hm h => h2 m (by omega) h⟩, h3.1⟩, h3.2⟩
theorem refB_zone {l : List S39} (hn : l.length ≤ 8) : ∀ k, isZone (l.length : Int) (refB l k) = true
  | 0 => by
    refine (closure_zone hn (allM_len _) (c := far) (fun i j => Int.le_refl _) ?_).2.2
    refine ⟨⟨fun i j k hi hj hk => ?_, fun i hi => ?_⟩, fun i j hi hj => ?_, fun X _ hu i j hi hj => ?_⟩
    · show at_ _ (allM _) i j ≤ at_ _ (allM _) i k + at_ _ (allM _) k j
      rw [at_allM hi hj, at_allM hi hk, at_allM hk hj]; exact far_tri i j k
    · show 0 ≤ at_ _ (allM _) i i
      rw [at_allM hi hi]; exact (far_le i i).1
    · show at_ _ (allM _) i j ≤ far i j
      rw [at_allM hi hj]; exact Int.le_refl _
    · show X i j ≤ at_ _ (allM _) i j
      rw [at_allM hi hj]; exact hu i j hi hj
  | k + 1 => limZ_zone hn (limZ_fit (refB_fit l k) _ _ _) _ _ _
theorem boxT_ref {l : List S39} (hn : l.length ≤ 8) : refB l l.length = boxT l := by
  have hz := refB_zone hn l.length
  have hl := boxM_len l
  have key : ∀ X, Closed l.length X → (Under l.length X (cut l.length (boxL l.length 0 l (allM l.length))) ↔ (¬ refB l l.length = [] ∧ Under l.length X (cut l.length (refB l l.length)))) := by
    intro X hX
    rw [box_under l 0 _ (allM_len _) (by omega), refB_under hX l.length (Nat.le_refl _)]
    simp only [Nat.zero_add]
    exact ⟨fun h => ⟨h.1, fun m _ hm => h.2 m hm⟩, fun h => ⟨h.1, fun m hm => h.2 m hm hm⟩⟩
  unfold boxT
  rcases (zone_len hz).2 with h0 | ⟨h0, hlr, hC⟩
  · rcases closeT_cases hl with ⟨a, _⟩ | ⟨_, _, hD⟩
    · rw [h0, a]
    · exact absurd h0 ((key _ hD.1).1 hD.2.1).1
  · rcases closeT_cases hl with ⟨_, hD⟩ | ⟨a, _, hD⟩
    · exact absurd ((key _ hC.1).2 ⟨h0, hC.2.1⟩) (hD _ hC.1)
    · exact list_eq hlr a (fun i j hi hj => (IsClosure.unique hD ⟨hC.1, (key _ hC.1).2 ⟨h0, hC.2.1⟩, fun X hX hu => hC.2.2 X hX ((key X hX).1 hu).2⟩ i j hi hj).symm)
theorem ev_refBox {l : List S39} (hn : l.length ≤ 8) : Ev (fun k => warrantorref09_Box.f k l) ((l.length : Int), boxT l) := by
  unfold warrantorref09_Box.f
  refine Ev.bind (ev_refAll hn) ?_
  have key := Ev.up0 (l := fun k t => warrantorref09_Box.l0 k l (t : Int) (l.length : Int) (refB l t)) (N := l.length) (r := ((l.length : Int), boxT l)) ?_ ?_
  · exact key
  · refine Ev.succ (fun k => by rw [warrantorref09_Box.l0]) ?_
    simp only [if_neg (Int.lt_irrefl _)]
    exact Ev.const (by rw [boxT_ref hn])
  · intro t ht h
    refine Ev.succ (fun k => by rw [warrantorref09_Box.l0]) ?_
    simp only [if_pos (show (t : Int) < (l.length : Int) by omega), if_pos (show (0 : Int) ≤ (t : Int) by omega), succ_nat t (by omega)]
    refine Ev.bind (ev_refPlain _ _) ?_
    have hp := pl_range (rd_T39 l (t : Int)).f0 (rd_T39 l (t : Int)).f1
    refine Ev.bind (ev_refLimit hn (refB_fit l t) (i := t + 1) (j := 0) (by omega) (Nat.zero_le _) _) ?_
    simp only [w64 (x := -(pl (rd_T39 l (t : Int)).f0 (rd_T39 l (t : Int)).f1).1) (by omega) (by omega)]
    refine Ev.bind (ev_refLimit hn (limZ_fit (refB_fit l t) _ _ _) (i := 0) (j := t + 1) (Nat.zero_le _) (by omega) _) ?_
    exact h
/-! ### each variable's interval -/
theorem wv_map {l : List S39} (f : S39 → Int) {k : Nat} (h : k < l.length) : wv (l.map f) (k + 1) = f l[k] := by
  rw [wv_succ, rd_nat, List.getD_eq_getElem?_getD, List.getElem?_map, List.getElem?_eq_getElem h]; rfl
theorem box_itv {l : List S39} (hn : l.length ≤ 8) (h0 : ¬ boxT l = []) {k : Nat} (hk : k < l.length) : itvZ l.length (boxT l) (k + 1) = pl l[k].f0 l[k].f1 := by
  have hl := boxM_len l
  have hD : IsClosure l.length (cut l.length (boxL l.length 0 l (allM l.length))) (at_ l.length (boxT l)) := by
    rcases closeT_cases hl with ⟨a, _⟩ | ⟨_, _, hD⟩
    · exact absurd a h0
    · exact hD
  have hu := (box_under l 0 _ (allM_len _) (by omega)).1 hD.2.1
  have bound : ∀ m (h : m < l.length), at_ l.length (boxT l) (m + 1) 0 ≤ hi l[m] ∧ at_ l.length (boxT l) 0 (m + 1) ≤ -(lo l[m]) ∧ lo l[m] ≤ hi l[m] := by
    intro m h
    have h1 := hu.2 m h
    rw [Nat.zero_add] at h1
    have h2 := pl_range l[m].f0 l[m].f1
    have h3 := hD.1.1 0 0 (m + 1) (Nat.zero_le _) (Nat.zero_le _) (by omega)
    have h4 := hD.1.2 0 (Nat.zero_le _)
    unfold UL B at h1
    unfold lo hi at h1 ⊢
    omega
  have hv : hasP l.length (boxT l) (l.map lo) := (hasP_box (by simp)).2 fun m h => by rw [wv_map lo h]; exact ⟨Int.le_refl _, (bound m h).2.2⟩
  have hw : hasP l.length (boxT l) (l.map hi) := (hasP_box (by simp)).2 fun m h => by rw [wv_map hi h]; exact ⟨(bound m h).2.2, Int.le_refl _⟩
  have u1 := hv.2.2 0 (k + 1) (Nat.zero_le _) (by omega)
  have u2 := hw.2.2 (k + 1) 0 (by omega) (Nat.zero_le _)
  rw [wv_map lo hk, wv_zero] at u1
  rw [wv_map hi hk, wv_zero] at u2
  have b := bound k hk
  unfold itvZ
  rw [if_neg h0, show at_ l.length (boxT l) 0 (k + 1) = -(lo l[k]) by omega, show at_ l.length (boxT l) (k + 1) 0 = hi l[k] by omega, Int.neg_neg]
  rfl
theorem boxT_zone {l : List S39} (hn : l.length ≤ 8) : isZone (l.length : Int) (boxT l) = true := closeT_zone hn (boxM_len l)
theorem boxes_each {l : List S39} (hn : l.length ≤ 8) : Ev (fun k => warrantorlaw09_ZoneBoxes.l1 k l 0 (l.length : Int) (boxT l)) true := by
  have hz := boxT_zone hn
  have key := Ev.up0 (l := fun k t => warrantorlaw09_ZoneBoxes.l1 k l (t : Int) (l.length : Int) (boxT l)) (N := l.length) (r := true) ?_ ?_
  · exact key
  · refine Ev.succ (fun k => by rw [warrantorlaw09_ZoneBoxes.l1]) ?_
    simp only [if_neg (Int.lt_irrefl _)]
    exact Ev.const rfl
  · intro t ht h
    refine Ev.succ (fun k => by rw [warrantorlaw09_ZoneBoxes.l1]) ?_
    simp only [if_pos (show (t : Int) < (l.length : Int) by omega), if_pos (show (0 : Int) ≤ (t : Int) by omega), succ_nat t (by omega)]
    refine Ev.bind (ev_Itv hz (i := t + 1) (by omega)) ?_
    simp only [if_pos]
    refine Ev.bind (ev_Empty _ _) ?_
    by_cases h0 : boxT l = []
    · have e : (isZone (l.length : Int) (boxT l) && decide (boxT l = [])) = true := by rw [hz, decide_eq_true h0]; rfl
      have ei : itvZ l.length (boxT l) (t + 1) = (1, 0) := by unfold itvZ; rw [if_pos h0]
      simp only [e, if_pos]
      refine Ev.bind (ev_Empty _ _) ?_
      simp only [e, if_pos, warrantorref07_None.f, Option.bind_some, ei, same_itv, if_neg Bool.false_ne_true]
      exact h
    · have e : (isZone (l.length : Int) (boxT l) && decide (boxT l = [])) = false := by rw [decide_eq_false h0, Bool.and_false]
      simp only [e, if_neg Bool.false_ne_true]
      refine Ev.bind (ev_refPlain _ _) ?_
      rw [rdT_get ht]
      simp only [box_itv hn h0 ht, same_itv, if_neg Bool.false_ne_true]
      refine Ev.bind (ev_Empty _ _) ?_
      simp only [e, if_neg Bool.false_ne_true]
      exact h
/-! ### what it has -/
def allIn (l : List S39) (u : List Int) (t : Nat) : Bool := (List.range' 0 t).all fun k => decide (lo (rd_T39 l (k : Int)) ≤ rd u (k : Int) ∧ rd u (k : Int) ≤ hi (rd_T39 l (k : Int)))
theorem allIn_succ (l : List S39) (u : List Int) (t : Nat) : allIn l u (t + 1) = (allIn l u t && decide (lo (rd_T39 l (t : Int)) ≤ rd u (t : Int) ∧ rd u (t : Int) ≤ hi (rd_T39 l (t : Int)))) := by
  unfold allIn
  rw [List.range'_concat, List.all_append]
  simp
theorem boxes_two {l : List S39} {u : List Int} (hn : l.length ≤ 8) : Ev (fun k => warrantorlaw09_ZoneBoxes.j2 k l u 0 (decide (u.length = l.length) && allIn l u l.length) (l.length : Int) (boxT l)) true := by
  have hz := boxT_zone hn
  refine Ev.succ (fun k => by rw [warrantorlaw09_ZoneBoxes.j2]) ?_
  simp only [if_pos]
  refine Ev.bind (ev_refBox hn) ?_
  refine Ev.bind (sameSelf _ (fit_le hn (closeT_len _ (boxM_len l)))) ?_
  simp only [if_pos]
  have fin : ∀ b : Bool, b = (decide (u.length = l.length) && allIn l u l.length) → Ev (fun k => if (b != (decide (u.length = l.length) && allIn l u l.length)) = true then none else warrantorlaw09_ZoneBoxes.l1 k l 0 (l.length : Int) (boxT l)) true := by
    intro b hb
    rw [hb]
    simp only [bne_self_eq_false, if_neg Bool.false_ne_true]
    exact boxes_each hn
  by_cases hu : u.length = l.length
  · refine Ev.bind (ev_hasZ hz hu) (fin _ ?_)
    rw [decide_eq_true hu, Bool.true_and]
    apply Bool.eq_iff_iff.2
    rw [hasZ_iff hz, hasP_box hu]
    unfold allIn
    rw [all0]
    constructor
    · intro h k hk
      have := h k hk
      rw [wv_succ] at this
      rw [rdT_get hk]
      exact decide_eq_true this
    · intro h k hk
      have := of_decide_eq_true (h k hk)
      rw [rdT_get hk] at this
      rw [wv_succ]
      exact this
  · refine Ev.bind (ev_hasZ_len hz hu) (fin _ ?_)
    rw [decide_eq_false hu, Bool.false_and]
theorem boxes_law {l : List S39} {u : List Int} (hn : l.length ≤ 8) (hu : u.length ≤ 20) : Ev (fun k => warrantorlaw09_ZoneBoxes.l0 k l u 0 ((u.length : Int) == (l.length : Int)) 0 (l.length : Int) (boxT l)) true := by
  have e0 : ((u.length : Int) == (l.length : Int)) = (decide (u.length = l.length) && allIn l u 0) := by
    have : allIn l u 0 = true := rfl
    rw [this, Bool.and_true]
    apply Bool.eq_iff_iff.2
    rw [beq_iff_eq, decide_eq_true_eq]
    omega
  rw [e0]
  have key := Ev.up0 (l := fun k t => warrantorlaw09_ZoneBoxes.l0 k l u 0 (decide (u.length = l.length) && allIn l u t) (t : Int) (l.length : Int) (boxT l)) (N := min l.length u.length) (r := true) ?_ ?_
  · exact key
  · refine Ev.succ (fun k => by rw [warrantorlaw09_ZoneBoxes.l0]) ?_
    have two := boxes_two (u := u) hn
    by_cases hlu : l.length ≤ u.length
    · rw [Nat.min_eq_left hlu]
      simp only [if_neg (Int.lt_irrefl _)]
      exact two
    · rw [Nat.min_eq_right (by omega)]
      simp only [if_pos (show (u.length : Int) < (l.length : Int) by omega), if_neg (Int.lt_irrefl _)]
      have hd : decide (u.length = l.length) = false := decide_eq_false (by omega)
      rw [hd, Bool.false_and] at two ⊢
      exact two
  · intro t ht h
    refine Ev.succ (fun k => by rw [warrantorlaw09_ZoneBoxes.l0]) ?_
    rw [allIn_succ] at h
    simp only [if_pos (show (t : Int) < (l.length : Int) by omega), if_pos (show (t : Int) < (u.length : Int) by omega), if_pos (show (0 : Int) ≤ (t : Int) by omega), itvHas_f, Option.bind_some, succ_nat t (by omega)]
    cases hb : (decide (u.length = l.length) && allIn l u t) with
    | true =>
      rw [← Bool.and_assoc, hb, Bool.true_and] at h
      simp only [if_pos]
      exact h
    | false =>
      rw [← Bool.and_assoc, hb, Bool.false_and] at h
      simp only [if_neg Bool.false_ne_true]
      exact h
theorem pure_ZoneBoxes : warrantorlaw09_ZoneBoxes.Pure := by
  intro l u _ _ _ _ _ _
  apply Ev.get
  unfold warrantorlaw09_ZoneBoxes.f
  have big : Ev (fun k => warrantorlaw09_ZoneBoxes.j0 k l u true) true := by
    refine Ev.succ (fun k => by rw [warrantorlaw09_ZoneBoxes.j0]) ?_
    simp only [if_pos, Option.bind_fun_some]
    exact ev_lives09
  by_cases g1 : (l.length : Int) > 20
  · simp only [if_pos g1]; exact big
  · simp only [if_neg g1]
    by_cases g2 : (u.length : Int) > 20
    · simp only [decide_eq_true g2]; exact big
    · simp only [decide_eq_false g2]
      refine Ev.succ (fun k => by rw [warrantorlaw09_ZoneBoxes.j0]) ?_
      simp only [if_neg Bool.false_ne_true]
      by_cases hn : l.length ≤ 8
      · refine Ev.bind (ev_Box hn) ?_
        refine Ev.bind ev_lives09 ?_
        simp only [if_pos, if_neg (show ¬ (l.length : Int) > 8 by omega)]
        exact boxes_law hn (by omega)
      · have eb : Ev (fun k => zone_Box.f k l) (0, [], 1) := by
          unfold zone_Box.f
          have hv : ¬ vars (l.length : Int) = true := fun h => by have := of_decide_eq_true h; omega
          simp only [all_f, if_neg hv, Option.bind_some, if_neg (show ¬ (1 : Int) = 0 by decide)]
          exact Ev.const rfl
        refine Ev.bind eb ?_
        refine Ev.bind ev_lives09 ?_
        simp only [if_pos, if_pos (show (l.length : Int) > 8 by omega)]
        exact Ev.bind (sameSelf 0 (zs := []) (by simp)) (Ev.const rfl)
end Go.Proofs.Ytgeemdpflcefkaa.DbmEv
namespace Go.Proofs.Ytgeemdpflcefkaa.Pure
open Go.RowKit Go.Proofs.Ytgeemdpflcefkaa.Z Go.Proofs.YtgeemdpflcefkaaW.PrintWords Go.Proofs.YtgeemdpflcefkaaW.PrintLast
theorem ZoneBoxes : warrantorlaw09_ZoneBoxes.Pure := DbmEv.pure_ZoneBoxes
end Go.Proofs.Ytgeemdpflcefkaa.Pure
