/- chapter 09: what is told of two zones, by the program and by the reference -/
import Derived.Test.YtgeemdpflcefkaaZx3
import Derived.Test.YtgeemdpflcefkaaZx4
import Derived.Test.YtgeemdpflcefkaaZx7
import Derived.Test.YtgeemdpflcefkaaZx8
import Derived.Test.YtgeemdpflcefkaaZx20
import Derived.Test.YtgeemdpflcefkaaZx21
import Derived.Test.YtgeemdpflcefkaaZx22
import Derived.Test.YtgeemdpflcefkaaZx23
import Derived.Test.YtgeemdpflcefkaaZx24
import Derived.Test.YtgeemdpflcefkaaZx25
import Derived.Test.YtgeemdpflcefkaaZx35
import Derived.Test.YtgeemdpflcefkaaZx36
import Derived.Test.YtgeemdpflcefkaaZx37
import Derived.Test.YtgeemdpflcefkaaZoneBase
set_option linter.unusedVariables false
set_option linter.unusedSimpArgs false
namespace Go.Proofs.Ytgeemdpflcefkaa.DbmEv
open Go.RowKit Go.Proofs.Ytgeemdpflcefkaa.Z Go.Proofs.YtgeemdpflcefkaaW.PrintWords Go.Proofs.YtgeemdpflcefkaaW.PrintLast Go.Proofs.Ytgeemdpflcefkaa.DbmMath
def closeT (n : Nat) (zs : List Int) : List Int := if closeOk n zs = true then closeTo n zs (n + 1) else []
theorem closeR_fit {n : Nat} (hn : n ≤ 8) {zs : List Int} (hl : zs.length = (n + 1) * (n + 1)) : closeR (n : Int) zs = ((n : Int), closeT n zs, 0) := by
  unfold closeR closeT
  rw [if_pos (fits_of hn hl), Int.toNat_natCast]
theorem closeT_len (n : Nat) {zs : List Int} (hl : zs.length = (n + 1) * (n + 1)) : closeT n zs = [] ∨ (closeT n zs).length = (n + 1) * (n + 1) := by
  unfold closeT
  split
  · right; rw [closeTo_length]; exact hl
  · left; rfl
theorem closeT_le {n : Nat} (hn : n ≤ 8) {zs : List Int} (hl : zs.length = (n + 1) * (n + 1)) : (closeT n zs).length ≤ 81 := by
  have := size_le hn
  rcases closeT_len n hl with h | h
  · rw [h]; simp
  · omega
theorem clone_f {xs : List Int} (h : xs.length < 17592186044416) : slices_Clone_int_int.f xs = some xs := by
  unfold slices_Clone_int_int.f
  simp only [Option.bind_some, List.length_nil, Nat.zero_add, if_pos h, List.nil_append]
/-! ### pairs -/
def zp (F : Int → Int → Int) (xs ys : List Int) (p : Nat) : List Int := (List.range p).map fun q : Nat => F (rd xs (q : Int)) (rd ys (q : Int))
theorem zp_len (F : Int → Int → Int) (xs ys : List Int) (p : Nat) : (zp F xs ys p).length = p := by simp [zp]
theorem zp_succ (F : Int → Int → Int) (xs ys : List Int) (p : Nat) : zp F xs ys p ++ [F (rd xs (p : Int)) (rd ys (p : Int))] = zp F xs ys (p + 1) := by
  unfold zp; rw [List.range_succ, List.map_append, List.map_singleton]
theorem zp_set {F : Int → Int → Int} {xs ys : List Int} {p : Nat} (h : p < xs.length) : (zp F xs ys p ++ xs.drop p).set p (F (rd xs (p : Int)) (rd ys (p : Int))) = zp F xs ys (p + 1) ++ xs.drop (p + 1) := by
  rw [List.set_append_right _ _ (by rw [zp_len]; omega), zp_len, Nat.sub_self, List.drop_eq_getElem_cons h, List.set_cons_zero, ← zp_succ, List.append_assoc, List.singleton_append]
theorem zp_rd {F : Int → Int → Int} {xs ys : List Int} {p : Nat} (h : p < xs.length) : rd (zp F xs ys p ++ xs.drop p) (p : Int) = rd xs (p : Int) := by
  rw [rd_nat, rd_nat, List.getD_eq_getElem?_getD, List.getD_eq_getElem?_getD, List.getElem?_append_right (by rw [zp_len]; omega), zp_len, Nat.sub_self, List.getElem?_drop, Nat.add_zero]
theorem zp_drop_len {F : Int → Int → Int} {xs ys : List Int} {p : Nat} (h : p ≤ xs.length) : (zp F xs ys p ++ xs.drop p).length = xs.length := by
  rw [List.length_append, zp_len, List.length_drop]; omega
theorem at_zp {F : Int → Int → Int} {n : Nat} {xs ys : List Int} {i j : Nat} (hi : i ≤ n) (hj : j ≤ n) : at_ n (zp F xs ys ((n + 1) * (n + 1))) i j = F (at_ n xs i j) (at_ n ys i j) := by
  have hlt := place_lt hi hj
  unfold at_ zp
  rw [rd_nat, List.getD_eq_getElem?_getD, List.getElem?_map, List.getElem?_range hlt]
  rfl
def wid (a b : Int) : Int := if b > a then 4398046511104 else a
/-! ### two -/
def two (a : Int) (xs : List Int) (b : Int) (ys : List Int) : Int := if isZone a xs = true ∧ isZone b ys = true then (if a = b then 0 else 1) else 80
theorem ev_two (a : Int) (xs : List Int) (b : Int) (ys : List Int) : Ev (fun k => zone_two.f k a xs b ys) (two a xs b ys) := by
  unfold zone_two.f
  refine Ev.bind (ev_Check a xs) ?_
  by_cases h : isZone a xs = true
  · simp only [if_pos h, if_pos]
    refine Ev.bind (ev_Check b ys) ?_
    refine Ev.succ (fun k => by rw [zone_two.j0]) ?_
    refine Ev.const ?_
    unfold two
    by_cases h2 : isZone b ys = true
    · simp [h, h2]; split <;> rfl
    · simp [h, h2]
  · simp only [if_neg h, if_neg (show ¬ (80 : Int) = 0 by decide)]
    refine Ev.succ (fun k => by rw [zone_two.j0]) ?_
    refine Ev.const ?_
    unfold two
    simp [h]
theorem ev_refTwo (a : Int) (xs : List Int) (b : Int) (ys : List Int) (hx : xs.length ≤ 200) (hy : ys.length ≤ 200) : Ev (fun k => warrantorref09_Two.f k a xs b ys) (two a xs b ys) := by
  unfold warrantorref09_Two.f
  refine Ev.bind (ev_refCheck a xs hx) ?_
  by_cases h : isZone a xs = true
  · simp only [h, if_pos]
    refine Ev.bind (ev_refCheck b ys hy) ?_
    refine Ev.succ (fun k => by rw [warrantorref09_Two.j0]) ?_
    refine Ev.const ?_
    unfold two
    by_cases h2 : isZone b ys = true
    · simp [h, h2]; split <;> rfl
    · simp [h, h2]
  · simp only [h, if_neg Bool.false_ne_true]
    refine Ev.succ (fun k => by rw [warrantorref09_Two.j0]) ?_
    refine Ev.const ?_
    unfold two
    simp [h]
/-- Two zones of the same variables. -/
theorem two_cases {a b : Int} {xs ys : List Int} (h : two a xs b ys = 0) : a = b ∧ isZone a xs = true ∧ isZone b ys = true := by
  unfold two at h
  split at h
  · next h1 =>
    split at h
    · next h2 => exact ⟨h2, h1⟩
    · exact absurd h (by decide)
  · exact absurd h (by decide)
theorem zone_len {n : Nat} {xs : List Int} (h : isZone (n : Int) xs = true) : n ≤ 8 ∧ (xs = [] ∨ (¬ xs = [] ∧ xs.length = (n + 1) * (n + 1) ∧ IsClosure n (cut n xs) (at_ n xs))) := by
  obtain ⟨m, hm, hn, hc⟩ := zone_cases h
  have : n = m := by omega
  subst this
  exact ⟨hn, hc⟩
theorem zone_nat {a : Int} {xs : List Int} (h : isZone a xs = true) : ∃ n : Nat, a = n ∧ n ≤ 8 := by
  obtain ⟨n, h1, h2, _⟩ := zone_cases h
  exact ⟨n, h1, h2⟩
/-! ### mixed: Meet -/
theorem ev_mixed_v0 {n : Nat} (hn : n ≤ 8) {xs ys : List Int} (hx : xs.length = (n + 1) * (n + 1)) (hy : ys.length = (n + 1) * (n + 1)) (b : Int) : Ev (fun k => zone_mixed_v0.f k (n : Int) xs b ys) ((n : Int), closeT n (zp mn xs ys ((n + 1) * (n + 1)))) := by
  have hs := size_le hn
  unfold zone_mixed_v0.f
  simp only [clone_f (show xs.length < 17592186044416 by omega), Option.bind_some]
  have key := Ev.up0 (l := fun k i => zone_mixed_v0.l0 k (zp mn xs ys i ++ xs.drop i) (xs.length : Int) (i : Int) (n : Int) xs b ys) (N := xs.length) (r := ((n : Int), closeT n (zp mn xs ys ((n + 1) * (n + 1))))) ?_ ?_
  · have e0 : zp mn xs ys 0 ++ xs.drop 0 = xs := by simp [zp]
    rw [e0] at key
    exact key
  · refine Ev.succ (fun k => by rw [zone_mixed_v0.l0]) ?_
    simp only [if_neg (Int.lt_irrefl _), List.drop_length, List.append_nil]
    rw [hx]
    refine Ev.bind (ev_Close _ _) ?_
    rw [closeR_fit hn (zp_len _ _ _ _)]
    exact Ev.const rfl
  · intro i hi h
    refine Ev.succ (fun k => by rw [zone_mixed_v0.l0]) ?_
    have hd := zp_drop_len (F := mn) (xs := xs) (ys := ys) (p := i) (by omega)
    simp only [if_pos (show (i : Int) < (xs.length : Int) by omega), if_pos (show (0 : Int) ≤ (i : Int) by omega), hd, if_pos (show (i : Int) < (ys.length : Int) by omega), zp_rd hi, Int.toNat_natCast, succ_nat i (by omega)]
    have e : zone_Meet_1.f (rd xs (i : Int)) (rd ys (i : Int)) = some (mn (rd xs (i : Int)) (rd ys (i : Int))) := rfl
    simp only [e, Option.bind_some]
    rw [zp_set hi]
    exact h
theorem ev_both_v0 {n : Nat} {xs ys : List Int} (hzx : isZone (n : Int) xs = true) (hzy : isZone (n : Int) ys = true) (c : Bool) : Ev (fun k => zone_both_v0.f k (n : Int) xs (n : Int) ys c) ((n : Int), (if xs = [] ∨ ys = [] then (if c = true then (if xs = [] then ys else xs) else []) else closeT n (zp mn xs ys ((n + 1) * (n + 1)))), 0) := by
  unfold zone_both_v0.f
  refine Ev.bind (ev_two _ _ _ _) ?_
  have e : two (n : Int) xs (n : Int) ys = 0 := by unfold two; rw [if_pos ⟨hzx, hzy⟩, if_pos rfl]
  obtain ⟨hn, hx⟩ := zone_len hzx
  obtain ⟨_, hy⟩ := zone_len hzy
  have hs := size_le hn
  have hx1 : xs.length ≤ 81 := by rcases hx with h | ⟨_, h, _⟩ <;> rw [h] <;> first | omega | exact Nat.zero_le _
  have hy1 : ys.length ≤ 81 := by rcases hy with h | ⟨_, h, _⟩ <;> rw [h] <;> first | omega | exact Nat.zero_le _
  simp only [e, if_pos]
  have no : xs = [] ∨ ys = [] → Ev (fun k => zone_both_v0.j0 k c false (n : Int) xs (n : Int) ys) ((n : Int), (if xs = [] ∨ ys = [] then (if c = true then (if xs = [] then ys else xs) else []) else closeT n (zp mn xs ys ((n + 1) * (n + 1)))), 0) := by
    intro hor
    refine Ev.succ (fun k => by rw [zone_both_v0.j0]) ?_
    simp only [if_neg Bool.false_ne_true, if_pos hor, clone_f (show xs.length < 17592186044416 by omega), clone_f (show ys.length < 17592186044416 by omega), Option.bind_some, zone_empty.f]
    refine Ev.const ?_
    have e2 : ((xs.length : Int) = 0) ↔ xs = [] := ⟨fun h => List.eq_nil_of_length_eq_zero (by omega), fun h => by rw [h]; rfl⟩
    simp only [e2]
    cases c <;> simp
    split <;> rfl
  rcases hx with hx | ⟨hx, hlx, _⟩
  · simp only [if_neg (show ¬ (xs.length : Int) > 0 by rw [hx]; simp)]
    exact no (.inl hx)
  · simp only [if_pos (show (xs.length : Int) > 0 by have := List.length_pos_iff.2 hx; omega)]
    rcases hy with hy | ⟨hy, hly, _⟩
    · rw [show decide ((ys.length : Int) > 0) = false by rw [hy]; rfl]
      exact no (.inr hy)
    · rw [show decide ((ys.length : Int) > 0) = true by have := List.length_pos_iff.2 hy; exact decide_eq_true (by omega)]
      refine Ev.succ (fun k => by rw [zone_both_v0.j0]) ?_
      simp only [if_pos, if_neg (show ¬ (xs = [] ∨ ys = []) from fun h => h.elim hx hy)]
      exact Ev.bind (ev_mixed_v0 hn hlx hly _) (Ev.const rfl)
theorem ev_both_no_v0 {a b : Int} {xs ys : List Int} (h : ¬ two a xs b ys = 0) (c : Bool) : Ev (fun k => zone_both_v0.f k a xs b ys c) (0, [], two a xs b ys) := by
  unfold zone_both_v0.f
  refine Ev.bind (ev_two _ _ _ _) ?_
  simp only [if_neg h]
  exact Ev.const rfl
theorem ev_Meet {n : Nat} {xs ys : List Int} (hzx : isZone (n : Int) xs = true) (hzy : isZone (n : Int) ys = true) : Ev (fun k => zone_Meet.f k (n : Int) xs (n : Int) ys) ((n : Int), (if xs = [] ∨ ys = [] then [] else closeT n (zp mn xs ys ((n + 1) * (n + 1)))), 0) := by
  unfold zone_Meet.f
  have h := ev_both_v0 hzx hzy false
  simp only [if_neg Bool.false_ne_true] at h
  exact Ev.bind h (Ev.const rfl)
theorem ev_no_Meet {a b : Int} {xs ys : List Int} (h : ¬ two a xs b ys = 0) : Ev (fun k => zone_Meet.f k a xs b ys) (0, [], two a xs b ys) := by
  unfold zone_Meet.f
  exact Ev.bind (ev_both_no_v0 h false) (Ev.const rfl)
theorem ev_refZip_Meet {n : Nat} (hn : n ≤ 8) {xs ys : List Int} (hx : xs.length = (n + 1) * (n + 1)) (hy : ys.length = (n + 1) * (n + 1)) (b : Int) : Ev (fun k => warrantorref09_Meet.l0 k [] 0 (n : Int) xs b ys) ((n : Int), closeT n (zp mn xs ys ((n + 1) * (n + 1)))) := by
  have hs := size_le hn
  have key := Ev.up0 (l := fun k i => warrantorref09_Meet.l0 k (zp mn xs ys i) (i : Int) (n : Int) xs b ys) (N := xs.length) (r := ((n : Int), closeT n (zp mn xs ys ((n + 1) * (n + 1))))) ?_ ?_
  · exact key
  · refine Ev.succ (fun k => by rw [warrantorref09_Meet.l0]) ?_
    simp only [if_neg (Int.lt_irrefl _), hx]
    exact Ev.bind (ev_refClose hn (zp_len _ _ _ _)) (Ev.const rfl)
  · intro i hi h
    refine Ev.succ (fun k => by rw [warrantorref09_Meet.l0]) ?_
    simp only [if_pos (show (i : Int) < (xs.length : Int) by omega), if_pos (show (0 : Int) ≤ (i : Int) by omega), if_pos (show (i : Int) < (ys.length : Int) by omega), zp_len, if_pos (show i < 17592186044416 by omega), succ_nat i (by omega)]
    rw [← zp_succ] at h
    by_cases hc : rd ys (i : Int) < rd xs (i : Int)
    · simp only [if_pos hc]
      rw [show mn (rd xs (i : Int)) (rd ys (i : Int)) = rd ys (i : Int) by rw [mn_eq]; omega] at h
      exact h
    · simp only [if_neg hc]
      rw [show mn (rd xs (i : Int)) (rd ys (i : Int)) = rd xs (i : Int) by rw [mn_eq]; omega] at h
      exact h
/-! ### mixed: Join -/
theorem ev_mixed_v1 {n : Nat} (hn : n ≤ 8) {xs ys : List Int} (hx : xs.length = (n + 1) * (n + 1)) (hy : ys.length = (n + 1) * (n + 1)) (b : Int) : Ev (fun k => zone_mixed_v1.f k (n : Int) xs b ys) ((n : Int), closeT n (zp mx xs ys ((n + 1) * (n + 1)))) := by
  have hs := size_le hn
  unfold zone_mixed_v1.f
  simp only [clone_f (show xs.length < 17592186044416 by omega), Option.bind_some]
  have key := Ev.up0 (l := fun k i => zone_mixed_v1.l0 k (zp mx xs ys i ++ xs.drop i) (xs.length : Int) (i : Int) (n : Int) xs b ys) (N := xs.length) (r := ((n : Int), closeT n (zp mx xs ys ((n + 1) * (n + 1))))) ?_ ?_
  · have e0 : zp mx xs ys 0 ++ xs.drop 0 = xs := by simp [zp]
    rw [e0] at key
    exact key
  · refine Ev.succ (fun k => by rw [zone_mixed_v1.l0]) ?_
    simp only [if_neg (Int.lt_irrefl _), List.drop_length, List.append_nil]
    rw [hx]
    refine Ev.bind (ev_Close _ _) ?_
    rw [closeR_fit hn (zp_len _ _ _ _)]
    exact Ev.const rfl
  · intro i hi h
    refine Ev.succ (fun k => by rw [zone_mixed_v1.l0]) ?_
    have hd := zp_drop_len (F := mx) (xs := xs) (ys := ys) (p := i) (by omega)
    simp only [if_pos (show (i : Int) < (xs.length : Int) by omega), if_pos (show (0 : Int) ≤ (i : Int) by omega), hd, if_pos (show (i : Int) < (ys.length : Int) by omega), zp_rd hi, Int.toNat_natCast, succ_nat i (by omega)]
    have e : zone_Join_1.f (rd xs (i : Int)) (rd ys (i : Int)) = some (mx (rd xs (i : Int)) (rd ys (i : Int))) := rfl
    simp only [e, Option.bind_some]
    rw [zp_set hi]
    exact h
theorem ev_both_v1 {n : Nat} {xs ys : List Int} (hzx : isZone (n : Int) xs = true) (hzy : isZone (n : Int) ys = true) (c : Bool) : Ev (fun k => zone_both_v1.f k (n : Int) xs (n : Int) ys c) ((n : Int), (if xs = [] ∨ ys = [] then (if c = true then (if xs = [] then ys else xs) else []) else closeT n (zp mx xs ys ((n + 1) * (n + 1)))), 0) := by
  unfold zone_both_v1.f
  refine Ev.bind (ev_two _ _ _ _) ?_
  have e : two (n : Int) xs (n : Int) ys = 0 := by unfold two; rw [if_pos ⟨hzx, hzy⟩, if_pos rfl]
  obtain ⟨hn, hx⟩ := zone_len hzx
  obtain ⟨_, hy⟩ := zone_len hzy
  have hs := size_le hn
  have hx1 : xs.length ≤ 81 := by rcases hx with h | ⟨_, h, _⟩ <;> rw [h] <;> first | omega | exact Nat.zero_le _
  have hy1 : ys.length ≤ 81 := by rcases hy with h | ⟨_, h, _⟩ <;> rw [h] <;> first | omega | exact Nat.zero_le _
  simp only [e, if_pos]
  have no : xs = [] ∨ ys = [] → Ev (fun k => zone_both_v1.j0 k c false (n : Int) xs (n : Int) ys) ((n : Int), (if xs = [] ∨ ys = [] then (if c = true then (if xs = [] then ys else xs) else []) else closeT n (zp mx xs ys ((n + 1) * (n + 1)))), 0) := by
    intro hor
    refine Ev.succ (fun k => by rw [zone_both_v1.j0]) ?_
    simp only [if_neg Bool.false_ne_true, if_pos hor, clone_f (show xs.length < 17592186044416 by omega), clone_f (show ys.length < 17592186044416 by omega), Option.bind_some, zone_empty.f]
    refine Ev.const ?_
    have e2 : ((xs.length : Int) = 0) ↔ xs = [] := ⟨fun h => List.eq_nil_of_length_eq_zero (by omega), fun h => by rw [h]; rfl⟩
    simp only [e2]
    cases c <;> simp
    split <;> rfl
  rcases hx with hx | ⟨hx, hlx, _⟩
  · simp only [if_neg (show ¬ (xs.length : Int) > 0 by rw [hx]; simp)]
    exact no (.inl hx)
  · simp only [if_pos (show (xs.length : Int) > 0 by have := List.length_pos_iff.2 hx; omega)]
    rcases hy with hy | ⟨hy, hly, _⟩
    · rw [show decide ((ys.length : Int) > 0) = false by rw [hy]; rfl]
      exact no (.inr hy)
    · rw [show decide ((ys.length : Int) > 0) = true by have := List.length_pos_iff.2 hy; exact decide_eq_true (by omega)]
      refine Ev.succ (fun k => by rw [zone_both_v1.j0]) ?_
      simp only [if_pos, if_neg (show ¬ (xs = [] ∨ ys = []) from fun h => h.elim hx hy)]
      exact Ev.bind (ev_mixed_v1 hn hlx hly _) (Ev.const rfl)
theorem ev_both_no_v1 {a b : Int} {xs ys : List Int} (h : ¬ two a xs b ys = 0) (c : Bool) : Ev (fun k => zone_both_v1.f k a xs b ys c) (0, [], two a xs b ys) := by
  unfold zone_both_v1.f
  refine Ev.bind (ev_two _ _ _ _) ?_
  simp only [if_neg h]
  exact Ev.const rfl
theorem ev_Join {n : Nat} {xs ys : List Int} (hzx : isZone (n : Int) xs = true) (hzy : isZone (n : Int) ys = true) : Ev (fun k => zone_Join.f k (n : Int) xs (n : Int) ys) ((n : Int), (if xs = [] ∨ ys = [] then (if xs = [] then ys else xs) else closeT n (zp mx xs ys ((n + 1) * (n + 1)))), 0) := by
  unfold zone_Join.f
  have h := ev_both_v1 hzx hzy true
  simp only [if_pos] at h
  exact Ev.bind h (Ev.const rfl)
theorem ev_no_Join {a b : Int} {xs ys : List Int} (h : ¬ two a xs b ys = 0) : Ev (fun k => zone_Join.f k a xs b ys) (0, [], two a xs b ys) := by
  unfold zone_Join.f
  exact Ev.bind (ev_both_no_v1 h true) (Ev.const rfl)
theorem ev_refZip_Join {n : Nat} (hn : n ≤ 8) {xs ys : List Int} (hx : xs.length = (n + 1) * (n + 1)) (hy : ys.length = (n + 1) * (n + 1)) (b : Int) : Ev (fun k => warrantorref09_Join.l0 k [] 0 (n : Int) xs b ys) ((n : Int), closeT n (zp mx xs ys ((n + 1) * (n + 1)))) := by
  have hs := size_le hn
  have key := Ev.up0 (l := fun k i => warrantorref09_Join.l0 k (zp mx xs ys i) (i : Int) (n : Int) xs b ys) (N := xs.length) (r := ((n : Int), closeT n (zp mx xs ys ((n + 1) * (n + 1))))) ?_ ?_
  · exact key
  · refine Ev.succ (fun k => by rw [warrantorref09_Join.l0]) ?_
    simp only [if_neg (Int.lt_irrefl _), hx]
    exact Ev.bind (ev_refClose hn (zp_len _ _ _ _)) (Ev.const rfl)
  · intro i hi h
    refine Ev.succ (fun k => by rw [warrantorref09_Join.l0]) ?_
    simp only [if_pos (show (i : Int) < (xs.length : Int) by omega), if_pos (show (0 : Int) ≤ (i : Int) by omega), if_pos (show (i : Int) < (ys.length : Int) by omega), zp_len, if_pos (show i < 17592186044416 by omega), succ_nat i (by omega)]
    rw [← zp_succ] at h
    by_cases hc : rd ys (i : Int) > rd xs (i : Int)
    · simp only [if_pos hc]
      rw [show mx (rd xs (i : Int)) (rd ys (i : Int)) = rd ys (i : Int) by rw [mx_eq]; omega] at h
      exact h
    · simp only [if_neg hc]
      rw [show mx (rd xs (i : Int)) (rd ys (i : Int)) = rd xs (i : Int) by rw [mx_eq]; omega] at h
      exact h
/-! ### mixed: Widen -/
theorem ev_mixed_v2 {n : Nat} (hn : n ≤ 8) {xs ys : List Int} (hx : xs.length = (n + 1) * (n + 1)) (hy : ys.length = (n + 1) * (n + 1)) (b : Int) : Ev (fun k => zone_mixed_v2.f k (n : Int) xs b ys) ((n : Int), closeT n (zp wid xs ys ((n + 1) * (n + 1)))) := by
  have hs := size_le hn
  unfold zone_mixed_v2.f
  simp only [clone_f (show xs.length < 17592186044416 by omega), Option.bind_some]
  have key := Ev.up0 (l := fun k i => zone_mixed_v2.l0 k (zp wid xs ys i ++ xs.drop i) (xs.length : Int) (i : Int) (n : Int) xs b ys) (N := xs.length) (r := ((n : Int), closeT n (zp wid xs ys ((n + 1) * (n + 1))))) ?_ ?_
  · have e0 : zp wid xs ys 0 ++ xs.drop 0 = xs := by simp [zp]
    rw [e0] at key
    exact key
  · refine Ev.succ (fun k => by rw [zone_mixed_v2.l0]) ?_
    simp only [if_neg (Int.lt_irrefl _), List.drop_length, List.append_nil]
    rw [hx]
    refine Ev.bind (ev_Close _ _) ?_
    rw [closeR_fit hn (zp_len _ _ _ _)]
    exact Ev.const rfl
  · intro i hi h
    refine Ev.succ (fun k => by rw [zone_mixed_v2.l0]) ?_
    have hd := zp_drop_len (F := wid) (xs := xs) (ys := ys) (p := i) (by omega)
    simp only [if_pos (show (i : Int) < (xs.length : Int) by omega), if_pos (show (0 : Int) ≤ (i : Int) by omega), hd, if_pos (show (i : Int) < (ys.length : Int) by omega), zp_rd hi, Int.toNat_natCast, succ_nat i (by omega)]
    have e : zone_Widen_1.f (rd xs (i : Int)) (rd ys (i : Int)) = some (wid (rd xs (i : Int)) (rd ys (i : Int))) := by unfold zone_Widen_1.f wid; split <;> rfl
    simp only [e, Option.bind_some]
    rw [zp_set hi]
    exact h
theorem ev_both_v2 {n : Nat} {xs ys : List Int} (hzx : isZone (n : Int) xs = true) (hzy : isZone (n : Int) ys = true) (c : Bool) : Ev (fun k => zone_both_v2.f k (n : Int) xs (n : Int) ys c) ((n : Int), (if xs = [] ∨ ys = [] then (if c = true then (if xs = [] then ys else xs) else []) else closeT n (zp wid xs ys ((n + 1) * (n + 1)))), 0) := by
  unfold zone_both_v2.f
  refine Ev.bind (ev_two _ _ _ _) ?_
  have e : two (n : Int) xs (n : Int) ys = 0 := by unfold two; rw [if_pos ⟨hzx, hzy⟩, if_pos rfl]
  obtain ⟨hn, hx⟩ := zone_len hzx
  obtain ⟨_, hy⟩ := zone_len hzy
  have hs := size_le hn
  have hx1 : xs.length ≤ 81 := by rcases hx with h | ⟨_, h, _⟩ <;> rw [h] <;> first | omega | exact Nat.zero_le _
  have hy1 : ys.length ≤ 81 := by rcases hy with h | ⟨_, h, _⟩ <;> rw [h] <;> first | omega | exact Nat.zero_le _
  simp only [e, if_pos]
  have no : xs = [] ∨ ys = [] → Ev (fun k => zone_both_v2.j0 k c false (n : Int) xs (n : Int) ys) ((n : Int), (if xs = [] ∨ ys = [] then (if c = true then (if xs = [] then ys else xs) else []) else closeT n (zp wid xs ys ((n + 1) * (n + 1)))), 0) := by
    intro hor
    refine Ev.succ (fun k => by rw [zone_both_v2.j0]) ?_
    simp only [if_neg Bool.false_ne_true, if_pos hor, clone_f (show xs.length < 17592186044416 by omega), clone_f (show ys.length < 17592186044416 by omega), Option.bind_some, zone_empty.f]
    refine Ev.const ?_
    have e2 : ((xs.length : Int) = 0) ↔ xs = [] := ⟨fun h => List.eq_nil_of_length_eq_zero (by omega), fun h => by rw [h]; rfl⟩
    simp only [e2]
    cases c <;> simp
    split <;> rfl
  rcases hx with hx | ⟨hx, hlx, _⟩
  · simp only [if_neg (show ¬ (xs.length : Int) > 0 by rw [hx]; simp)]
    exact no (.inl hx)
  · simp only [if_pos (show (xs.length : Int) > 0 by have := List.length_pos_iff.2 hx; omega)]
    rcases hy with hy | ⟨hy, hly, _⟩
    · rw [show decide ((ys.length : Int) > 0) = false by rw [hy]; rfl]
      exact no (.inr hy)
    · rw [show decide ((ys.length : Int) > 0) = true by have := List.length_pos_iff.2 hy; exact decide_eq_true (by omega)]
      refine Ev.succ (fun k => by rw [zone_both_v2.j0]) ?_
      simp only [if_pos, if_neg (show ¬ (xs = [] ∨ ys = []) from fun h => h.elim hx hy)]
      exact Ev.bind (ev_mixed_v2 hn hlx hly _) (Ev.const rfl)
theorem ev_both_no_v2 {a b : Int} {xs ys : List Int} (h : ¬ two a xs b ys = 0) (c : Bool) : Ev (fun k => zone_both_v2.f k a xs b ys c) (0, [], two a xs b ys) := by
  unfold zone_both_v2.f
  refine Ev.bind (ev_two _ _ _ _) ?_
  simp only [if_neg h]
  exact Ev.const rfl
theorem ev_Widen {n : Nat} {xs ys : List Int} (hzx : isZone (n : Int) xs = true) (hzy : isZone (n : Int) ys = true) : Ev (fun k => zone_Widen.f k (n : Int) xs (n : Int) ys) ((n : Int), (if xs = [] ∨ ys = [] then (if xs = [] then ys else xs) else closeT n (zp wid xs ys ((n + 1) * (n + 1)))), 0) := by
  unfold zone_Widen.f
  have h := ev_both_v2 hzx hzy true
  simp only [if_pos] at h
  exact Ev.bind h (Ev.const rfl)
theorem ev_no_Widen {a b : Int} {xs ys : List Int} (h : ¬ two a xs b ys = 0) : Ev (fun k => zone_Widen.f k a xs b ys) (0, [], two a xs b ys) := by
  unfold zone_Widen.f
  exact Ev.bind (ev_both_no_v2 h true) (Ev.const rfl)
theorem ev_refZip_Widen {n : Nat} (hn : n ≤ 8) {xs ys : List Int} (hx : xs.length = (n + 1) * (n + 1)) (hy : ys.length = (n + 1) * (n + 1)) (b : Int) : Ev (fun k => warrantorref09_Widen.l0 k [] 0 (n : Int) xs b ys) ((n : Int), closeT n (zp wid xs ys ((n + 1) * (n + 1)))) := by
  have hs := size_le hn
  have key := Ev.up0 (l := fun k i => warrantorref09_Widen.l0 k (zp wid xs ys i) (i : Int) (n : Int) xs b ys) (N := xs.length) (r := ((n : Int), closeT n (zp wid xs ys ((n + 1) * (n + 1))))) ?_ ?_
  · exact key
  · refine Ev.succ (fun k => by rw [warrantorref09_Widen.l0]) ?_
    simp only [if_neg (Int.lt_irrefl _), hx]
    exact Ev.bind (ev_refClose hn (zp_len _ _ _ _)) (Ev.const rfl)
  · intro i hi h
    refine Ev.succ (fun k => by rw [warrantorref09_Widen.l0]) ?_
    simp only [if_pos (show (i : Int) < (xs.length : Int) by omega), if_pos (show (0 : Int) ≤ (i : Int) by omega), if_pos (show (i : Int) < (ys.length : Int) by omega), zp_len, if_pos (show i < 17592186044416 by omega), succ_nat i (by omega)]
    rw [← zp_succ] at h
    by_cases hc : rd ys (i : Int) > rd xs (i : Int)
    · simp only [if_pos hc]
      rw [show wid (rd xs (i : Int)) (rd ys (i : Int)) = 4398046511104 by unfold wid; rw [if_pos hc]] at h
      exact h
    · simp only [if_neg hc]
      rw [show wid (rd xs (i : Int)) (rd ys (i : Int)) = rd xs (i : Int) by unfold wid; rw [if_neg hc]] at h
      exact h
theorem ev_leq {n : Nat} {xs ys : List Int} (hzx : isZone (n : Int) xs = true) (hzy : isZone (n : Int) ys = true) : ∃ r, Ev (fun k => zone_Leq.f k (n : Int) xs (n : Int) ys) (r, 0) ∧ Ev (fun k => warrantorref09_Leq.f k (n : Int) xs (n : Int) ys) r ∧ r = (decide (xs = []) || (!decide (ys = []) && (List.range' 0 xs.length).all (fun i => decide (rd xs (i : Int) ≤ rd ys (i : Int))))) := by
  have e : two (n : Int) xs (n : Int) ys = 0 := by unfold two; rw [if_pos ⟨hzx, hzy⟩, if_pos rfl]
  obtain ⟨hn, hx⟩ := zone_len hzx
  obtain ⟨_, hy⟩ := zone_len hzy
  have hs := size_le hn
  have wrap : ∀ r, Ev (fun k => zone_leq.f k (n : Int) xs (n : Int) ys) r → Ev (fun k => zone_Leq.f k (n : Int) xs (n : Int) ys) (r, 0) := by
    intro r h
    unfold zone_Leq.f
    refine Ev.bind (ev_two _ _ _ _) ?_
    simp only [e, if_pos]
    exact Ev.bind h (Ev.const rfl)
  rcases hx with hx | ⟨hx, hlx, _⟩
  · refine ⟨true, wrap _ ?_, ?_, by simp [hx]⟩
    · unfold zone_leq.f
      simp only [hx, List.length_nil, Int.natCast_zero, if_pos]
      refine Ev.succ (fun k => by rw [zone_leq.j0]) ?_
      exact Ev.const rfl
    · unfold warrantorref09_Leq.f
      simp only [hx, List.length_nil, Int.natCast_zero, if_pos]
      exact Ev.const rfl
  · have hxp := List.length_pos_iff.2 hx
    rcases hy with hy | ⟨hy, hly, _⟩
    · refine ⟨false, wrap _ ?_, ?_, by simp [hx, hy]⟩
      · unfold zone_leq.f
        simp only [if_neg (show ¬ (xs.length : Int) = 0 by omega), hy, List.length_nil, Int.natCast_zero, BEq.rfl]
        refine Ev.succ (fun k => by rw [zone_leq.j0]) ?_
        simp only [if_pos]
        refine Ev.const ?_
        rw [beq_eq_false_iff_ne.2 (show ¬ (xs.length : Int) = 0 by omega)]
      · unfold warrantorref09_Leq.f
        simp only [if_neg (show ¬ (xs.length : Int) = 0 by omega), hy, List.length_nil, Int.natCast_zero, if_pos]
        exact Ev.const rfl
    · have hyp := List.length_pos_iff.2 hy
      refine ⟨_, wrap _ ?_, ?_, rfl⟩
      · unfold zone_leq.f
        simp only [if_neg (show ¬ (xs.length : Int) = 0 by omega), beq_eq_false_iff_ne.2 (show ¬ (ys.length : Int) = 0 by omega)]
        refine Ev.succ (fun k => by rw [zone_leq.j0]) ?_
        simp only [if_neg Bool.false_ne_true]
        have h := Ev.loop0 (l := fun k i => zone_leq.l0 k xs (xs.length : Int) (i : Int) (n : Int) ys) (P := fun i => decide (rd xs (i : Int) ≤ rd ys (i : Int))) (rest := true) (N := xs.length) ?_ ?_ ?_
        · simpa [hx, hy] using h
        · intro _
          refine Ev.succ (fun k => by rw [zone_leq.l0]) ?_
          simp only [if_neg (Int.lt_irrefl _)]
          exact Ev.const rfl
        · intro i s hi _ hp hq
          refine Ev.succ (fun k => by rw [zone_leq.l0]) ?_
          simp only [if_pos (show (i : Int) < (xs.length : Int) by omega), if_pos (show (0 : Int) ≤ (i : Int) by omega), if_pos (show (i : Int) < (ys.length : Int) by omega), if_neg (show ¬ rd xs (i : Int) > rd ys (i : Int) by have := of_decide_eq_true hp; omega), succ_nat i (by omega)]
          exact hq
        · intro i hi _ hp
          refine Ev.succ (fun k => by rw [zone_leq.l0]) ?_
          simp only [if_pos (show (i : Int) < (xs.length : Int) by omega), if_pos (show (0 : Int) ≤ (i : Int) by omega), if_pos (show (i : Int) < (ys.length : Int) by omega), if_pos (show rd xs (i : Int) > rd ys (i : Int) by have := of_decide_eq_false hp; omega)]
          exact Ev.const rfl
      · unfold warrantorref09_Leq.f
        simp only [if_neg (show ¬ (xs.length : Int) = 0 by omega), if_neg (show ¬ (ys.length : Int) = 0 by omega)]
        have h := Ev.loop0 (l := fun k i => warrantorref09_Leq.l0 k (i : Int) (n : Int) xs (n : Int) ys) (P := fun i => decide (rd xs (i : Int) ≤ rd ys (i : Int))) (rest := true) (N := xs.length) ?_ ?_ ?_
        · simpa [hx, hy] using h
        · intro _
          refine Ev.succ (fun k => by rw [warrantorref09_Leq.l0]) ?_
          simp only [if_neg (Int.lt_irrefl _)]
          exact Ev.const rfl
        · intro i s hi _ hp hq
          refine Ev.succ (fun k => by rw [warrantorref09_Leq.l0]) ?_
          simp only [if_pos (show (i : Int) < (xs.length : Int) by omega), if_pos (show (0 : Int) ≤ (i : Int) by omega), if_pos (show (i : Int) < (ys.length : Int) by omega), if_neg (show ¬ rd xs (i : Int) > rd ys (i : Int) by have := of_decide_eq_true hp; omega), succ_nat i (by omega)]
          exact hq
        · intro i hi _ hp
          refine Ev.succ (fun k => by rw [warrantorref09_Leq.l0]) ?_
          simp only [if_pos (show (i : Int) < (xs.length : Int) by omega), if_pos (show (0 : Int) ≤ (i : Int) by omega), if_pos (show (i : Int) < (ys.length : Int) by omega), if_pos (show rd xs (i : Int) > rd ys (i : Int) by have := of_decide_eq_false hp; omega)]
          exact Ev.const rfl
theorem ev_refMeet {n : Nat} {xs ys : List Int} (hzx : isZone (n : Int) xs = true) (hzy : isZone (n : Int) ys = true) : Ev (fun k => warrantorref09_Meet.f k (n : Int) xs (n : Int) ys) ((n : Int), (if xs = [] ∨ ys = [] then [] else closeT n (zp mn xs ys ((n + 1) * (n + 1))))) := by
  obtain ⟨hn, hx⟩ := zone_len hzx
  obtain ⟨_, hy⟩ := zone_len hzy
  unfold warrantorref09_Meet.f
  have no : xs = [] ∨ ys = [] → Ev (fun k => warrantorref09_Meet.j0 k true (n : Int) xs (n : Int) ys) ((n : Int), (if xs = [] ∨ ys = [] then [] else closeT n (zp mn xs ys ((n + 1) * (n + 1))))) := by
    intro hor
    refine Ev.succ (fun k => by rw [warrantorref09_Meet.j0]) ?_
    simp only [if_pos hor, if_pos]
    exact Ev.const rfl
  rcases hx with hx | ⟨hx, hlx, _⟩
  · simp only [if_pos (show (xs.length : Int) = 0 by rw [hx]; rfl)]
    exact no (.inl hx)
  · have hxp := List.length_pos_iff.2 hx
    simp only [if_neg (show ¬ (xs.length : Int) = 0 by omega)]
    rcases hy with hy | ⟨hy, hly, _⟩
    · rw [show ((ys.length : Int) == 0) = true by rw [hy]; rfl]
      exact no (.inr hy)
    · have hyp := List.length_pos_iff.2 hy
      rw [beq_eq_false_iff_ne.2 (show ¬ (ys.length : Int) = 0 by omega)]
      refine Ev.succ (fun k => by rw [warrantorref09_Meet.j0]) ?_
      simp only [if_neg Bool.false_ne_true, if_neg (show ¬ (xs = [] ∨ ys = []) from fun h => h.elim hx hy)]
      exact ev_refZip_Meet hn hlx hly _
theorem ev_refJoin {n : Nat} {xs ys : List Int} (hzx : isZone (n : Int) xs = true) (hzy : isZone (n : Int) ys = true) : Ev (fun k => warrantorref09_Join.f k (n : Int) xs (n : Int) ys) ((n : Int), (if xs = [] ∨ ys = [] then (if xs = [] then ys else xs) else closeT n (zp mx xs ys ((n + 1) * (n + 1))))) := by
  obtain ⟨hn, hx⟩ := zone_len hzx
  obtain ⟨_, hy⟩ := zone_len hzy
  unfold warrantorref09_Join.f
  rcases hx with hx | ⟨hx, hlx, _⟩
  · simp only [if_pos (show (xs.length : Int) = 0 by rw [hx]; rfl)]
    exact Ev.const (by simp [hx])
  · have hxp := List.length_pos_iff.2 hx
    simp only [if_neg (show ¬ (xs.length : Int) = 0 by omega)]
    rcases hy with hy | ⟨hy, hly, _⟩
    · simp only [if_pos (show (ys.length : Int) = 0 by rw [hy]; rfl)]
      exact Ev.const (by simp [hx, hy])
    · have hyp := List.length_pos_iff.2 hy
      simp only [if_neg (show ¬ (ys.length : Int) = 0 by omega), if_neg (show ¬ (xs = [] ∨ ys = []) from fun h => h.elim hx hy)]
      exact ev_refZip_Join hn hlx hly _
theorem ev_refWiden {n : Nat} {xs ys : List Int} (hzx : isZone (n : Int) xs = true) (hzy : isZone (n : Int) ys = true) : Ev (fun k => warrantorref09_Widen.f k (n : Int) xs (n : Int) ys) ((n : Int), (if xs = [] ∨ ys = [] then (if xs = [] then ys else xs) else closeT n (zp wid xs ys ((n + 1) * (n + 1))))) := by
  obtain ⟨hn, hx⟩ := zone_len hzx
  obtain ⟨_, hy⟩ := zone_len hzy
  unfold warrantorref09_Widen.f
  rcases hx with hx | ⟨hx, hlx, _⟩
  · simp only [if_pos (show (xs.length : Int) = 0 by rw [hx]; rfl)]
    exact Ev.const (by simp [hx])
  · have hxp := List.length_pos_iff.2 hx
    simp only [if_neg (show ¬ (xs.length : Int) = 0 by omega)]
    rcases hy with hy | ⟨hy, hly, _⟩
    · simp only [if_pos (show (ys.length : Int) = 0 by rw [hy]; rfl)]
      exact Ev.const (by simp [hx, hy])
    · have hyp := List.length_pos_iff.2 hy
      simp only [if_neg (show ¬ (ys.length : Int) = 0 by omega), if_neg (show ¬ (xs = [] ∨ ys = []) from fun h => h.elim hx hy)]
      exact ev_refZip_Widen hn hlx hly _
end Go.Proofs.Ytgeemdpflcefkaa.DbmEv
