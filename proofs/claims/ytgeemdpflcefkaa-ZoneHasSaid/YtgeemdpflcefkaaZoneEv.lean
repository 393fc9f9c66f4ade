/- chapter 09: what the program makes of two zones -/
import Derived.Test.YtgeemdpflcefkaaZx4
import Derived.Test.YtgeemdpflcefkaaZx8
import Derived.Test.YtgeemdpflcefkaaZx20
import Derived.Test.YtgeemdpflcefkaaZx21
import Derived.Test.YtgeemdpflcefkaaZx22
import Derived.Test.YtgeemdpflcefkaaZx23
import Derived.Test.YtgeemdpflcefkaaZx24
import Derived.Test.YtgeemdpflcefkaaZx35
import Derived.Test.YtgeemdpflcefkaaZoneDbm
set_option linter.unusedVariables false
set_option linter.unusedSimpArgs false
namespace Go.Proofs.Ytgeemdpflcefkaa.DbmEv
open Go.RowKit Go.Proofs.Ytgeemdpflcefkaa.Z Go.Proofs.YtgeemdpflcefkaaW.PrintWords Go.Proofs.YtgeemdpflcefkaaW.PrintLast Go.Proofs.Ytgeemdpflcefkaa.DbmMath
def zp (F : Int → Int → Int) (xs ys : List Int) (p : Nat) : List Int := (List.range p).map fun q : Nat => F (rd xs (q : Int)) (rd ys (q : Int))
theorem zp_len (F : Int → Int → Int) (xs ys : List Int) (p : Nat) : (zp F xs ys p).length = p := by simp [zp]
theorem zp_succ (F : Int → Int → Int) (xs ys : List Int) (p : Nat) : zp F xs ys p ++ [F (rd xs (p : Int)) (rd ys (p : Int))] = zp F xs ys (p + 1) := by
  unfold zp; rw [List.range_succ, List.map_append, List.map_singleton]
theorem zp_set {F : Int → Int → Int} {xs ys : List Int} {p : Nat} (h : p < xs.length) : (zp F xs ys p ++ xs.drop p).set p (F (rd xs (p : Int)) (rd ys (p : Int))) = zp F xs ys (p + 1) ++ xs.drop (p + 1) := by
  rw [List.set_append_right _ _ (by rw [zp_len]; omega), zp_len, Nat.sub_self, List.drop_eq_getElem_cons h, List.set_cons_zero, ← zp_succ, List.append_assoc, List.singleton_append]
theorem zp_rd {F : Int → Int → Int} {xs ys : List Int} {p : Nat} (h : p < xs.length) : rd (zp F xs ys p ++ xs.drop p) (p : Int) = rd xs (p : Int) := by
  rw [rd_nat, rd_nat, List.getD_eq_getElem?_getD, List.getD_eq_getElem?_getD, List.getElem?_append_right (by rw [zp_len]; omega), zp_len, Nat.sub_self, List.getElem?_drop, Nat.add_zero]
theorem zp_drop_len {F : Int → Int → Int} {xs ys : List Int} {p : Nat} (h : p ≤ xs.length) : (zp F xs ys p ++ xs.drop p).length = xs.length := by
  rw [List.length_append, zp_len, List.length_drop]; omega
theorem at_zp {F : Int → Int → Int} {n : Nat} {xs ys : List Int} {i j : Nat} (hi : i ≤ n) (hj : j ≤ n) : at_ n (zp F xs ys ((n + 1) * (n + 1))) i j = F (at_ n xs i j) (at_ n ys i j) := by
  have hlt := place_lt hi hj
  unfold at_ zp
  rw [rd_nat, List.getD_eq_getElem?_getD, List.getElem?_map, List.getElem?_range hlt]
  rfl
def wid (a b : Int) : Int := if b > a then 4398046511104 else a
/-! ### two -/
def two (a : Int) (xs : List Int) (b : Int) (ys : List Int) : Int := if isZone a xs = true ∧ isZone b ys = true then (if a = b then 0 else 1) else 80
theorem ev_two (a : Int) (xs : List Int) (b : Int) (ys : List Int) : Ev (fun k => zone_two.f k a xs b ys) (two a xs b ys) := by
  unfold zone_two.f
  refine Ev.bind (ev_Check a xs) ?_
  by_cases h : isZone a xs = true
  · simp only [if_pos h, if_pos]
    refine Ev.bind (ev_Check b ys) ?_
    refine Ev.succ (fun k => by rw [zone_two.j0]) ?_
    refine Ev.const ?_
    unfold two
    by_cases h2 : isZone b ys = true
    · simp [h, h2]; split <;> rfl
    · simp [h, h2]
  · simp only [if_neg h, if_neg (show ¬ (80 : Int) = 0 by decide)]
    refine Ev.succ (fun k => by rw [zone_two.j0]) ?_
    refine Ev.const ?_
    unfold two
    simp [h]
theorem ev_refTwo (a : Int) (xs : List Int) (b : Int) (ys : List Int) (hx : xs.length ≤ 200) (hy : ys.length ≤ 200) : Ev (fun k => warrantorref09_Two.f k a xs b ys) (two a xs b ys) := by
  unfold warrantorref09_Two.f
  refine Ev.bind (ev_refCheck a xs hx) ?_
  by_cases h : isZone a xs = true
  · simp only [h, if_pos]
    refine Ev.bind (ev_refCheck b ys hy) ?_
    refine Ev.succ (fun k => by rw [warrantorref09_Two.j0]) ?_
    refine Ev.const ?_
    unfold two
    by_cases h2 : isZone b ys = true
    · simp [h, h2]; split <;> rfl
    · simp [h, h2]
  · simp only [h, if_neg Bool.false_ne_true]
    refine Ev.succ (fun k => by rw [warrantorref09_Two.j0]) ?_
    refine Ev.const ?_
    unfold two
    simp [h]
/-- Two zones of the same variables. -/
theorem two_cases {a b : Int} {xs ys : List Int} (h : two a xs b ys = 0) : a = b ∧ isZone a xs = true ∧ isZone b ys = true := by
  unfold two at h
  split at h
  · next h1 =>
    split at h
    · next h2 => exact ⟨h2, h1⟩
    · exact absurd h (by decide)
  · exact absurd h (by decide)
/-! ### mixed: Meet -/
theorem ev_mixed_v0 {n : Nat} (hn : n ≤ 8) {xs ys : List Int} (hx : xs.length = (n + 1) * (n + 1)) (hy : ys.length = (n + 1) * (n + 1)) (b : Int) : Ev (fun k => zone_mixed_v0.f k (n : Int) xs b ys) ((n : Int), closeT n (zp mn xs ys ((n + 1) * (n + 1)))) := by
  have hs := size_le hn
  unfold zone_mixed_v0.f
  simp only [clone_f (show xs.length < 17592186044416 by omega), Option.bind_some]
  have key := Ev.up0 (l := fun k i => zone_mixed_v0.l0 k (zp mn xs ys i ++ xs.drop i) (xs.length : Int) (i : Int) (n : Int) xs b ys) (N := xs.length) (r := ((n : Int), closeT n (zp mn xs ys ((n + 1) * (n + 1))))) ?_ ?_
  · have e0 : zp mn xs ys 0 ++ xs.drop 0 = xs := by simp [zp]
    rw [e0] at key
    exact key
  · refine Ev.succ (fun k => by rw [zone_mixed_v0.l0]) ?_
    simp only [if_neg (Int.lt_irrefl _), List.drop_length, List.append_nil]
    rw [hx]
    refine Ev.bind (ev_Close _ _) ?_
    rw [closeR_fit hn (zp_len _ _ _ _)]
    exact Ev.const rfl
  · intro i hi h
    refine Ev.succ (fun k => by rw [zone_mixed_v0.l0]) ?_
    have hd := zp_drop_len (F := mn) (xs := xs) (ys := ys) (p := i) (by omega)
    simp only [if_pos (show (i : Int) < (xs.length : Int) by omega), if_pos (show (0 : Int) ≤ (i : Int) by omega), hd, if_pos (show (i : Int) < (ys.length : Int) by omega), zp_rd hi, Int.toNat_natCast, succ_nat i (by omega)]
    have e : zone_Meet_1.f (rd xs (i : Int)) (rd ys (i : Int)) = some (mn (rd xs (i : Int)) (rd ys (i : Int))) := rfl
    simp only [e, Option.bind_some]
    rw [zp_set hi]
    exact h
theorem ev_both_v0 {n : Nat} {xs ys : List Int} (hzx : isZone (n : Int) xs = true) (hzy : isZone (n : Int) ys = true) (c : Bool) : Ev (fun k => zone_both_v0.f k (n : Int) xs (n : Int) ys c) ((n : Int), (if xs = [] ∨ ys = [] then (if c = true then (if xs = [] then ys else xs) else []) else closeT n (zp mn xs ys ((n + 1) * (n + 1)))), 0) := by
  unfold zone_both_v0.f
  refine Ev.bind (ev_two _ _ _ _) ?_
  have e : two (n : Int) xs (n : Int) ys = 0 := by unfold two; rw [if_pos ⟨hzx, hzy⟩, if_pos rfl]
  obtain ⟨hn, hx⟩ := zone_len hzx
  obtain ⟨_, hy⟩ := zone_len hzy
  have hs := size_le hn
  have hx1 : xs.length ≤ 81 := by rcases hx with h | ⟨_, h, _⟩ <;> rw [h] <;> first | omega | exact Nat.zero_le _
  have hy1 : ys.length ≤ 81 := by rcases hy with h | ⟨_, h, _⟩ <;> rw [h] <;> first | omega | exact Nat.zero_le _
  simp only [e, if_pos]
  have no : xs = [] ∨ ys = [] → Ev (fun k => zone_both_v0.j0 k c false (n : Int) xs (n : Int) ys) ((n : Int), (if xs = [] ∨ ys = [] then (if c = true then (if xs = [] then ys else xs) else []) else closeT n (zp mn xs ys ((n + 1) * (n + 1)))), 0) := by
    intro hor
    refine Ev.succ (fun k => by rw [zone_both_v0.j0]) ?_
    simp only [if_neg Bool.false_ne_true, if_pos hor, clone_f (show xs.length < 17592186044416 by omega), clone_f (show ys.length < 17592186044416 by omega), Option.bind_some, zone_empty.f]
    refine Ev.const ?_
    have e2 : ((xs.length : Int) = 0) ↔ xs = [] := ⟨fun h => List.eq_nil_of_length_eq_zero (by omega), fun h => by rw [h]; rfl⟩
    simp only [e2]
    cases c <;> simp
    split <;> rfl
  rcases hx with hx | ⟨hx, hlx, _⟩
  · simp only [if_neg (show ¬ (xs.length : Int) > 0 by rw [hx]; simp)]
    exact no (.inl hx)
  · simp only [if_pos (show (xs.length : Int) > 0 by have := List.length_pos_iff.2 hx; omega)]
    rcases hy with hy | ⟨hy, hly, _⟩
    · rw [show decide ((ys.length : Int) > 0) = false by rw [hy]; rfl]
      exact no (.inr hy)
    · rw [show decide ((ys.length : Int) > 0) = true by have := List.length_pos_iff.2 hy; exact decide_eq_true (by omega)]
      refine Ev.succ (fun k => by rw [zone_both_v0.j0]) ?_
      simp only [if_pos, if_neg (show ¬ (xs = [] ∨ ys = []) from fun h => h.elim hx hy)]
      exact Ev.bind (ev_mixed_v0 hn hlx hly _) (Ev.const rfl)
theorem ev_both_no_v0 {a b : Int} {xs ys : List Int} (h : ¬ two a xs b ys = 0) (c : Bool) : Ev (fun k => zone_both_v0.f k a xs b ys c) (0, [], two a xs b ys) := by
  unfold zone_both_v0.f
  refine Ev.bind (ev_two _ _ _ _) ?_
  simp only [if_neg h]
  exact Ev.const rfl
theorem ev_Meet {n : Nat} {xs ys : List Int} (hzx : isZone (n : Int) xs = true) (hzy : isZone (n : Int) ys = true) : Ev (fun k => zone_Meet.f k (n : Int) xs (n : Int) ys) ((n : Int), (if xs = [] ∨ ys = [] then [] else closeT n (zp mn xs ys ((n + 1) * (n + 1)))), 0) := by
  unfold zone_Meet.f
  have h := ev_both_v0 hzx hzy false
  simp only [if_neg Bool.false_ne_true] at h
  exact Ev.bind h (Ev.const rfl)
theorem ev_no_Meet {a b : Int} {xs ys : List Int} (h : ¬ two a xs b ys = 0) : Ev (fun k => zone_Meet.f k a xs b ys) (0, [], two a xs b ys) := by
  unfold zone_Meet.f
  exact Ev.bind (ev_both_no_v0 h false) (Ev.const rfl)
theorem ev_mixed_v1 {n : Nat} (hn : n ≤ 8) {xs ys : List Int} (hx : xs.length = (n + 1) * (n + 1)) (hy : ys.length = (n + 1) * (n + 1)) (b : Int) : Ev (fun k => zone_mixed_v1.f k (n : Int) xs b ys) ((n : Int), closeT n (zp mx xs ys ((n + 1) * (n + 1)))) := by
  have hs := size_le hn
  unfold zone_mixed_v1.f
  simp only [clone_f (show xs.length < 17592186044416 by omega), Option.bind_some]
  have key := Ev.up0 (l := fun k i => zone_mixed_v1.l0 k (zp mx xs ys i ++ xs.drop i) (xs.length : Int) (i : Int) (n : Int) xs b ys) (N := xs.length) (r := ((n : Int), closeT n (zp mx xs ys ((n + 1) * (n + 1))))) ?_ ?_
  · have e0 : zp mx xs ys 0 ++ xs.drop 0 = xs := by simp [zp]
    rw [e0] at key
    exact key
  · refine Ev.succ (fun k => by rw [zone_mixed_v1.l0]) ?_
    simp only [if_neg (Int.lt_irrefl _), List.drop_length, List.append_nil]
    rw [hx]
    refine Ev.bind (ev_Close _ _) ?_
    rw [closeR_fit hn (zp_len _ _ _ _)]
    exact Ev.const rfl
  · intro i hi h
    refine Ev.succ (fun k => by rw [zone_mixed_v1.l0]) ?_
    have hd := zp_drop_len (F := mx) (xs := xs) (ys := ys) (p := i) (by omega)
    simp only [if_pos (show (i : Int) < (xs.length : Int) by omega), if_pos (show (0 : Int) ≤ (i : Int) by omega), hd, if_pos (show (i : Int) < (ys.length : Int) by omega), zp_rd hi, Int.toNat_natCast, succ_nat i (by omega)]
    have e : zone_Join_1.f (rd xs (i : Int)) (rd ys (i : Int)) = some (mx (rd xs (i : Int)) (rd ys (i : Int))) := rfl
    simp only [e, Option.bind_some]
    rw [zp_set hi]
    exact h
theorem ev_both_v1 {n : Nat} {xs ys : List Int} (hzx : isZone (n : Int) xs = true) (hzy : isZone (n : Int) ys = true) (c : Bool) : Ev (fun k => zone_both_v1.f k (n : Int) xs (n : Int) ys c) ((n : Int), (if xs = [] ∨ ys = [] then (if c = true then (if xs = [] then ys else xs) else []) else closeT n (zp mx xs ys ((n + 1) * (n + 1)))), 0) := by
  unfold zone_both_v1.f
  refine Ev.bind (ev_two _ _ _ _) ?_
  have e : two (n : Int) xs (n : Int) ys = 0 := by unfold two; rw [if_pos ⟨hzx, hzy⟩, if_pos rfl]
  obtain ⟨hn, hx⟩ := zone_len hzx
  obtain ⟨_, hy⟩ := zone_len hzy
  have hs := size_le hn
  have hx1 : xs.length ≤ 81 := by rcases hx with h | ⟨_, h, _⟩ <;> rw [h] <;> first | omega | exact Nat.zero_le _
  have hy1 : ys.length ≤ 81 := by rcases hy with h | ⟨_, h, _⟩ <;> rw [h] <;> first | omega | exact Nat.zero_le _
  simp only [e, if_pos]
  have no : xs = [] ∨ ys = [] → Ev (fun k => zone_both_v1.j0 k c false (n : Int) xs (n : Int) ys) ((n : Int), (if xs = [] ∨ ys = [] then (if c = true then (if xs = [] then ys else xs) else []) else closeT n (zp mx xs ys ((n + 1) * (n + 1)))), 0) := by
    intro hor
    refine Ev.succ (fun k => by rw [zone_both_v1.j0]) ?_
    simp only [if_neg Bool.false_ne_true, if_pos hor, clone_f (show xs.length < 17592186044416 by omega), clone_f (show ys.length < 17592186044416 by omega), Option.bind_some, zone_empty.f]
    refine Ev.const ?_
    have e2 : ((xs.length : Int) = 0) ↔ xs = [] := ⟨fun h => List.eq_nil_of_length_eq_zero (by omega), fun h => by rw [h]; rfl⟩
    simp only [e2]
    cases c <;> simp
    split <;> rfl
  rcases hx with hx | ⟨hx, hlx, _⟩
  · simp only [if_neg (show ¬ (xs.length : Int) > 0 by rw [hx]; simp)]
    exact no (.inl hx)
  · simp only [if_pos (show (xs.length : Int) > 0 by have := List.length_pos_iff.2 hx; omega)]
    rcases hy with hy | ⟨hy, hly, _⟩
    · rw [show decide ((ys.length : Int) > 0) = false by rw [hy]; rfl]
      exact no (.inr hy)
    · rw [show decide ((ys.length : Int) > 0) = true by have := List.length_pos_iff.2 hy; exact decide_eq_true (by omega)]
      refine Ev.succ (fun k => by rw [zone_both_v1.j0]) ?_
      simp only [if_pos, if_neg (show ¬ (xs = [] ∨ ys = []) from fun h => h.elim hx hy)]
      exact Ev.bind (ev_mixed_v1 hn hlx hly _) (Ev.const rfl)
theorem ev_both_no_v1 {a b : Int} {xs ys : List Int} (h : ¬ two a xs b ys = 0) (c : Bool) : Ev (fun k => zone_both_v1.f k a xs b ys c) (0, [], two a xs b ys) := by
  unfold zone_both_v1.f
  refine Ev.bind (ev_two _ _ _ _) ?_
  simp only [if_neg h]
  exact Ev.const rfl
theorem ev_Join {n : Nat} {xs ys : List Int} (hzx : isZone (n : Int) xs = true) (hzy : isZone (n : Int) ys = true) : Ev (fun k => zone_Join.f k (n : Int) xs (n : Int) ys) ((n : Int), (if xs = [] ∨ ys = [] then (if xs = [] then ys else xs) else closeT n (zp mx xs ys ((n + 1) * (n + 1)))), 0) := by
  unfold zone_Join.f
  have h := ev_both_v1 hzx hzy true
  simp only [if_pos] at h
  exact Ev.bind h (Ev.const rfl)
theorem ev_no_Join {a b : Int} {xs ys : List Int} (h : ¬ two a xs b ys = 0) : Ev (fun k => zone_Join.f k a xs b ys) (0, [], two a xs b ys) := by
  unfold zone_Join.f
  exact Ev.bind (ev_both_no_v1 h true) (Ev.const rfl)
theorem ev_mixed_v2 {n : Nat} (hn : n ≤ 8) {xs ys : List Int} (hx : xs.length = (n + 1) * (n + 1)) (hy : ys.length = (n + 1) * (n + 1)) (b : Int) : Ev (fun k => zone_mixed_v2.f k (n : Int) xs b ys) ((n : Int), closeT n (zp wid xs ys ((n + 1) * (n + 1)))) := by
  have hs := size_le hn
  unfold zone_mixed_v2.f
  simp only [clone_f (show xs.length < 17592186044416 by omega), Option.bind_some]
  have key := Ev.up0 (l := fun k i => zone_mixed_v2.l0 k (zp wid xs ys i ++ xs.drop i) (xs.length : Int) (i : Int) (n : Int) xs b ys) (N := xs.length) (r := ((n : Int), closeT n (zp wid xs ys ((n + 1) * (n + 1))))) ?_ ?_
  · have e0 : zp wid xs ys 0 ++ xs.drop 0 = xs := by simp [zp]
    rw [e0] at key
    exact key
  · refine Ev.succ (fun k => by rw [zone_mixed_v2.l0]) ?_
    simp only [if_neg (Int.lt_irrefl _), List.drop_length, List.append_nil]
    rw [hx]
    refine Ev.bind (ev_Close _ _) ?_
    rw [closeR_fit hn (zp_len _ _ _ _)]
    exact Ev.const rfl
  · intro i hi h
    refine Ev.succ (fun k => by rw [zone_mixed_v2.l0]) ?_
    have hd := zp_drop_len (F := wid) (xs := xs) (ys := ys) (p := i) (by omega)
    simp only [if_pos (show (i : Int) < (xs.length : Int) by omega), if_pos (show (0 : Int) ≤ (i : Int) by omega), hd, if_pos (show (i : Int) < (ys.length : Int) by omega), zp_rd hi, Int.toNat_natCast, succ_nat i (by omega)]
    have e : zone_Widen_1.f (rd xs (i : Int)) (rd ys (i : Int)) = some (wid (rd xs (i : Int)) (rd ys (i : Int))) := by unfold zone_Widen_1.f wid; split <;> rfl
    simp only [e, Option.bind_some]
    rw [zp_set hi]
    exact h
theorem ev_both_v2 {n : Nat} {xs ys : List Int} (hzx : isZone (n : Int) xs = true) (hzy : isZone (n : Int) ys = true) (c : Bool) : Ev (fun k => zone_both_v2.f k (n : Int) xs (n : Int) ys c) ((n : Int), (if xs = [] ∨ ys = [] then (if c = true then (if xs = [] then ys else xs) else []) else closeT n (zp wid xs ys ((n + 1) * (n + 1)))), 0) := by
  unfold zone_both_v2.f
  refine Ev.bind (ev_two _ _ _ _) ?_
  have e : two (n : Int) xs (n : Int) ys = 0 := by unfold two; rw [if_pos ⟨hzx, hzy⟩, if_pos rfl]
  obtain ⟨hn, hx⟩ := zone_len hzx
  obtain ⟨_, hy⟩ := zone_len hzy
  have hs := size_le hn
  have hx1 : xs.length ≤ 81 := by rcases hx with h | ⟨_, h, _⟩ <;> rw [h] <;> first | omega | exact Nat.zero_le _
  have hy1 : ys.length ≤ 81 := by rcases hy with h | ⟨_, h, _⟩ <;> rw [h] <;> first | omega | exact Nat.zero_le _
  simp only [e, if_pos]
  have no : xs = [] ∨ ys = [] → Ev (fun k => zone_both_v2.j0 k c false (n : Int) xs (n : Int) ys) ((n : Int), (if xs = [] ∨ ys = [] then (if c = true then (if xs = [] then ys else xs) else []) else closeT n (zp wid xs ys ((n + 1) * (n + 1)))), 0) := by
    intro hor
    refine Ev.succ (fun k => by rw [zone_both_v2.j0]) ?_
    simp only [if_neg Bool.false_ne_true, if_pos hor, clone_f (show xs.length < 17592186044416 by omega), clone_f (show ys.length < 17592186044416 by omega), Option.bind_some, zone_empty.f]
    refine Ev.const ?_
    have e2 : ((xs.length : Int) = 0) ↔ xs = [] := ⟨fun h => List.eq_nil_of_length_eq_zero (by omega), fun h => by rw [h]; rfl⟩
    simp only [e2]
    cases c <;> simp
    split <;> rfl
  rcases hx with hx | ⟨hx, hlx, _⟩
  · simp only [if_neg (show ¬ (xs.length : Int) > 0 by rw [hx]; simp)]
    exact no (.inl hx)
  · simp only [if_pos (show (xs.length : Int) > 0 by have := List.length_pos_iff.2 hx; omega)]
    rcases hy with hy | ⟨hy, hly, _⟩
    · rw [show decide ((ys.length : Int) > 0) = false by rw [hy]; rfl]
      exact no (.inr hy)
    · rw [show decide ((ys.length : Int) > 0) = true by have := List.length_pos_iff.2 hy; exact decide_eq_true (by omega)]
      refine Ev.succ (fun k => by rw [zone_both_v2.j0]) ?_
      simp only [if_pos, if_neg (show ¬ (xs = [] ∨ ys = []) from fun h => h.elim hx hy)]
      exact Ev.bind (ev_mixed_v2 hn hlx hly _) (Ev.const rfl)
theorem ev_both_no_v2 {a b : Int} {xs ys : List Int} (h : ¬ two a xs b ys = 0) (c : Bool) : Ev (fun k => zone_both_v2.f k a xs b ys c) (0, [], two a xs b ys) := by
  unfold zone_both_v2.f
  refine Ev.bind (ev_two _ _ _ _) ?_
  simp only [if_neg h]
  exact Ev.const rfl
theorem ev_Widen {n : Nat} {xs ys : List Int} (hzx : isZone (n : Int) xs = true) (hzy : isZone (n : Int) ys = true) : Ev (fun k => zone_Widen.f k (n : Int) xs (n : Int) ys) ((n : Int), (if xs = [] ∨ ys = [] then (if xs = [] then ys else xs) else closeT n (zp wid xs ys ((n + 1) * (n + 1)))), 0) := by
  unfold zone_Widen.f
  have h := ev_both_v2 hzx hzy true
  simp only [if_pos] at h
  exact Ev.bind h (Ev.const rfl)
theorem ev_no_Widen {a b : Int} {xs ys : List Int} (h : ¬ two a xs b ys = 0) : Ev (fun k => zone_Widen.f k a xs b ys) (0, [], two a xs b ys) := by
  unfold zone_Widen.f
  exact Ev.bind (ev_both_no_v2 h true) (Ev.const rfl)
end Go.Proofs.Ytgeemdpflcefkaa.DbmEv
