/- chapter 19: sums of 64 bits, one step forth and one back (the plain law) -/
import Derived.Test.YtgbndakiiblhmaaNx6
namespace Go.Proofs.Ytgbndakiiblhmaa.FnvEv
open Go.RowKit Go.Proofs.Ytgbndakiiblhmaa.N Go.Proofs.YtgbndakiiblhmaaW.PrintWords Go.Proofs.YtgbndakiiblhmaaW.PrintLast
/-! ### enough rounds -/
def Ev {α : Type} (g : Nat → Option α) (r : α) : Prop := ∃ k0, ∀ k, k0 ≤ k → g k = some r
theorem Ev.const {α} {a : Option α} {r : α} (h : a = some r) : Ev (fun _ => a) r := ⟨0, fun _ _ => h⟩
theorem Ev.bind {α β} {g : Nat → Option α} {h : Nat → α → Option β} {a : α} {r : β} (hg : Ev g a) (hh : Ev (fun k => h k a) r) : Ev (fun k => (g k).bind (h k)) r := by
  obtain ⟨k1, h1⟩ := hg
  obtain ⟨k2, h2⟩ := hh
  refine ⟨max k1 k2, fun k hk => ?_⟩
  simp only [h1 k (by omega), Option.bind_some]
  exact h2 k (by omega)
theorem Ev.succ {α} {g b : Nat → Option α} {r : α} (h : ∀ k, g (k + 1) = b k) (hb : Ev b r) : Ev g r := by
  obtain ⟨k0, h0⟩ := hb
  refine ⟨k0 + 1, fun k hk => ?_⟩
  obtain ⟨j, rfl⟩ : ∃ j, k = j + 1 := ⟨k - 1, by omega⟩
  rw [h]
  exact h0 j (by omega)
theorem Ev.get {α} {g : Nat → Option α} {r : α} (h : Ev g r) : ∃ k, g k = some r := by
  obtain ⟨k0, h0⟩ := h
  exact ⟨k0, h0 k0 (Nat.le_refl _)⟩
theorem Ev.unique {α} {g : Nat → Option α} {r s : α} (h : Ev g r) (h' : Ev g s) : r = s := by
  obtain ⟨k1, h1⟩ := h
  obtain ⟨k2, h2⟩ := h'
  have := (h1 (max k1 k2) (by omega)).symm.trans (h2 (max k1 k2) (by omega))
  exact Option.some.inj this
theorem w64 {x : Int} (h : -9223372036854775808 ≤ x) (h' : x ≤ 9223372036854775807) : wrap64 x = x := by unfold wrap64; omega

theorem Ev.ofMono {α} {g : Nat → Option α} {r : α} (hm : ∀ k, LeO (g k) (g (k + 1))) {K : Nat} (h : g K = some r) : Ev g r :=
  ⟨K, fun k hk => by
    obtain ⟨m, rfl⟩ : ∃ m, k = K + m := ⟨k - K, by omega⟩
    clear hk
    induction m with
    | zero => exact h
    | succ m ih => exact hm _ _ ih⟩
theorem succ_nat (i : Nat) (h : i ≤ 4611686018427387904) : wrap64 ((i : Int) + 1) = ((i + 1 : Nat) : Int) := by rw [w64 (by omega) (by omega)]; omega
theorem rd_nat (xs : List Int) (p : Nat) : rd xs (p : Int) = xs.getD p 0 := rfl
theorem rd_get {xs : List Int} {i : Nat} (h : i < xs.length) : rd xs (i : Int) = xs[i] := by
  rw [rd_nat, List.getD_eq_getElem?_getD, List.getElem?_eq_getElem h, Option.getD_some]

theorem Ev.up {α} {l : Nat → Nat → Option α} {r : α} {N : Nat} (hend : Ev (fun k => l k N) r) (hgo : ∀ i, i < N → Ev (fun k => l k (i + 1)) r → Ev (fun k => l k i) r) : ∀ m i, i + m = N → Ev (fun k => l k i) r
  | 0, i, h => by
    have : i = N := by omega
    subst this; exact hend
  | m + 1, i, h => hgo i (by omega) (Ev.up hend hgo m (i + 1) (by omega))
theorem Ev.up0 {α} {l : Nat → Nat → Option α} {r : α} {N : Nat} (hend : Ev (fun k => l k N) r) (hgo : ∀ i, i < N → Ev (fun k => l k (i + 1)) r → Ev (fun k => l k i) r) : Ev (fun k => l k 0) r := Ev.up hend hgo N 0 (by omega)
theorem first_no {P : Nat → Prop} [DecidablePred P] : ∀ N, (¬ ∀ j, j < N → P j) → ∃ j, j < N ∧ (∀ i, i < j → P i) ∧ ¬ P j
  | 0, h => absurd (fun j hj => absurd hj (by omega)) h
  | N + 1, h => by
    by_cases h1 : ∀ j, j < N → P j
    · refine ⟨N, by omega, h1, fun h2 => h fun j hj => ?_⟩
      rcases Nat.lt_or_ge j N with h3 | h3
      · exact h1 j h3
      · have : j = N := by omega
        rw [this]; exact h2
    · obtain ⟨j, a, b, c⟩ := first_no N h1
      exact ⟨j, by omega, b, c⟩

/-! ### a step forth, a step back -/
def bv (n : Int) : BitVec 64 := BitVec.ofInt 64 n
def U (s : Int) : Prop := 0 ≤ s ∧ s < 18446744073709551616
theorem u64 (n : Int) : IntKind.u64.wrap n = n % 18446744073709551616 := by simp [IntKind.wrap, IntKind.bits, IntKind.signed]
theorem toNat_bv (n : Int) : ((bv n).toNat : Int) = n % 18446744073709551616 := by
  unfold bv
  rw [BitVec.toNat_ofInt]
  omega
theorem U_bv {n : Int} (h : U n) : ((bv n).toNat : Int) = n := by rw [toNat_bv]; exact Int.emod_eq_of_lt h.1 h.2
theorem U_toNat (v : BitVec 64) : U (v.toNat : Int) := ⟨by omega, by have := v.isLt; omega⟩
theorem wrap_bv (n : Int) : IntKind.u64.wrap n = ((bv n).toNat : Int) := by rw [u64, toNat_bv]
theorem bv_toNat (v : BitVec 64) : bv (v.toNat : Int) = v := by
  apply BitVec.eq_of_toNat_eq
  have h := toNat_bv (v.toNat : Int)
  have := v.isLt
  omega
theorem bv_wrap (n : Int) : bv (IntKind.u64.wrap n) = bv n := by rw [wrap_bv, bv_toNat]
theorem bv_mul (a b : Int) : bv (a * b) = bv a * bv b := by unfold bv; rw [BitVec.ofInt_mul]
theorem xor_bv (a b : Int) : Go.bits .xor .u64 a b = ((bv a ^^^ bv b).toNat : Int) := by
  show IntKind.u64.wrap (((BitVec.ofInt 64 a ^^^ BitVec.ofInt 64 b).toNat : Nat) : Int) = _
  rw [wrap_bv, bv_toNat]; rfl
theorem bv_inj {a b : Int} (ha : U a) (hb : U b) (h : bv a = bv b) : a = b := by rw [← U_bv ha, ← U_bv hb, h]
/-- What a byte makes of a sum; and back. -/
def stepB (v : BitVec 64) (x : Int) : BitVec 64 := (v ^^^ bv x) * bv 1099511628211
def backB (v : BitVec 64) (x : Int) : BitVec 64 := (v * bv 14886173955864302971) ^^^ bv x
theorem step_eq (s x : Int) : IntKind.u64.wrap ((Go.bits .xor .u64 s (IntKind.u64.wrap x)) * 1099511628211) = ((stepB (bv s) x).toNat : Int) := by
  rw [wrap_bv, bv_mul, xor_bv, bv_toNat, bv_wrap]; rfl
theorem back_eq (s x : Int) : lessStep 14886173955864302971 s x = ((backB (bv s) x).toNat : Int) := by
  unfold lessStep
  rw [xor_bv, bv_wrap, bv_wrap, bv_mul]; rfl
theorem times_back : bv 1099511628211 * bv 14886173955864302971 = 1#64 := by decide
theorem back_step (v : BitVec 64) (x : Int) : backB (stepB v x) x = v := by
  unfold backB stepB
  rw [BitVec.mul_assoc, times_back, BitVec.mul_one, BitVec.xor_assoc, BitVec.xor_self, BitVec.xor_zero]
theorem step_back (v : BitVec 64) (x : Int) : stepB (backB v x) x = v := by
  unfold backB stepB
  rw [BitVec.xor_assoc, BitVec.xor_self, BitVec.xor_zero, BitVec.mul_assoc, BitVec.mul_comm (bv 14886173955864302971), times_back, BitVec.mul_one]
theorem step_inj {v : BitVec 64} {x y : Int} (h : stepB v x = stepB v y) : bv x = bv y := by
  have h1 : v ^^^ bv x = v ^^^ bv y := by
    have h2 : (v ^^^ bv x) * bv 1099511628211 * bv 14886173955864302971 = (v ^^^ bv y) * bv 1099511628211 * bv 14886173955864302971 := congrArg (· * bv 14886173955864302971) h
    rwa [BitVec.mul_assoc, BitVec.mul_assoc, times_back, BitVec.mul_one, BitVec.mul_one] at h2
  have h3 : v ^^^ (v ^^^ bv x) = v ^^^ (v ^^^ bv y) := congrArg (v ^^^ ·) h1
  rwa [← BitVec.xor_assoc, ← BitVec.xor_assoc, BitVec.xor_self, BitVec.zero_xor, BitVec.zero_xor] at h3
def moreB (v : BitVec 64) (l : List Int) : BitVec 64 := l.foldl stepB v
def lessB (v : BitVec 64) (l : List Int) : BitVec 64 := l.foldr (fun x v => backB v x) v
theorem less_more : ∀ (l : List Int) (v : BitVec 64), lessB (moreB v l) l = v
  | [], v => rfl
  | x :: t, v => by
    show backB (lessB (moreB (stepB v x) t) t) x = v
    rw [less_more t, back_step]
theorem more_less : ∀ (l : List Int) (v : BitVec 64), moreB (lessB v l) l = v
  | [], v => rfl
  | x :: t, v => by
    show moreB (stepB (backB (lessB v t) x) x) t = v
    rw [step_back, more_less t]
theorem more_inj {l : List Int} {v u : BitVec 64} (h : moreB v l = moreB u l) : v = u := by rw [← less_more l v, h, less_more]
theorem more_append (v : BitVec 64) (a b : List Int) : moreB v (a ++ b) = moreB (moreB v a) b := List.foldl_append ..
theorem more_take (v : BitVec 64) (l : List Int) (i : Nat) (h : i < l.length) : moreB v (l.take (i + 1)) = stepB (moreB v (l.take i)) l[i] := by
  rw [List.take_succ_eq_append_getElem h, more_append]; rfl
/-! ### the loops -/
theorem ev_More {a : Int} (ha : U a) {l : List Int} (hl : l.length ≤ 4611686018427387904) : Ev (fun k => fnv_More.f k a l) ((moreB (bv a) l).toNat : Int) := by
  unfold fnv_More.f
  have h0 : a = ((moreB (bv a) (l.take 0)).toNat : Int) := (U_bv ha).symm
  have hk : (fun k => fnv_More.l0 k a l (l.length : Int) 0) = fun k => fnv_More.l0 k ((moreB (bv a) (l.take 0)).toNat : Int) l (l.length : Int) ((0 : Nat) : Int) := by rw [← h0]; rfl
  rw [hk]
  refine Ev.up0 (l := fun k i => fnv_More.l0 k ((moreB (bv a) (l.take i)).toNat : Int) l (l.length : Int) (i : Int)) (N := l.length) ?_ ?_
  · refine Ev.succ (fun k => by rw [fnv_More.l0]) ?_
    simp only [if_neg (Int.lt_irrefl _), List.take_length]
    exact Ev.const rfl
  · intro i hi h
    refine Ev.succ (fun k => by rw [fnv_More.l0]) ?_
    simp only [if_pos (show (i : Int) < (l.length : Int) by omega), if_pos (show (0 : Int) ≤ (i : Int) by omega), step_eq, bv_toNat, rd_get hi, succ_nat i (by omega)]
    rw [more_take _ _ _ hi] at h
    exact h
theorem ev_refMore {a : Int} (ha : U a) {l : List Int} (hl : l.length ≤ 4611686018427387904) : Ev (fun k => warrantorref19_More.f k a l) ((moreB (bv a) l).toNat : Int) := by
  unfold warrantorref19_More.f
  have h0 : a = ((moreB (bv a) (l.take 0)).toNat : Int) := (U_bv ha).symm
  have hk : (fun k => warrantorref19_More.l0 k a l 0) = fun k => warrantorref19_More.l0 k ((moreB (bv a) (l.take 0)).toNat : Int) l ((0 : Nat) : Int) := by rw [← h0]; rfl
  rw [hk]
  refine Ev.up0 (l := fun k i => warrantorref19_More.l0 k ((moreB (bv a) (l.take i)).toNat : Int) l (i : Int)) (N := l.length) ?_ ?_
  · refine Ev.succ (fun k => by rw [warrantorref19_More.l0]) ?_
    simp only [if_neg (Int.lt_irrefl _), List.take_length]
    exact Ev.const rfl
  · intro i hi h
    refine Ev.succ (fun k => by rw [warrantorref19_More.l0]) ?_
    simp only [if_pos (show (i : Int) < (l.length : Int) by omega), if_pos (show (0 : Int) ≤ (i : Int) by omega), step_eq, bv_toNat, rd_get hi, succ_nat i (by omega)]
    rw [more_take _ _ _ hi] at h
    exact h
theorem U_wf {a : Int} (h : (Lit.int .u64 a).wf = true) : U a := by
  simp only [Lit.wf, Bool.and_eq_true, decide_eq_true_eq] at h
  exact ⟨h.1, by have := h.2; simp [IntKind.max, IntKind.signed, IntKind.bits] at this; omega⟩
def beg : Int := 14695981039346656037
theorem U_beg : U beg := by unfold U beg; omega
theorem ev_Sum {l : List Int} (hl : l.length ≤ 4611686018427387904) : Ev (fun k => fnv_Sum.f k l) ((moreB (bv beg) l).toNat : Int) := by
  unfold fnv_Sum.f
  simp only [Option.bind_fun_some]
  exact ev_More U_beg hl
theorem ev_refSum {l : List Int} (hl : l.length ≤ 4611686018427387904) : Ev (fun k => warrantorref19_Sum.f k l) ((moreB (bv beg) l).toNat : Int) := by
  unfold warrantorref19_Sum.f
  simp only [Option.bind_fun_some]
  exact ev_refMore U_beg hl
theorem ev_undo : Ev (fun k => fnv_undo.f k) 14886173955864302971 := Ev.ofMono fnv_undo.mono (K := 10) (by decide +kernel)
theorem lessP_eq {a : Int} (ha : U a) (l : List Int) : ∀ k, k ≤ l.length → lessP 14886173955864302971 a (upto (backF l l.length) k) = ((lessB (bv a) (l.drop (l.length - k))).toNat : Int)
  | 0, _ => by
    have : l.drop (l.length - 0) = [] := List.drop_eq_nil_of_le (by omega)
    rw [this]
    exact (U_bv ha).symm
  | k + 1, hk => by
    have hlt : l.length - 1 - k < l.length := by omega
    rw [upto_succ, lessP_snoc, lessP_eq ha l k (by omega), back_eq, bv_toNat]
    have hd : l.drop (l.length - (k + 1)) = l[l.length - 1 - k] :: l.drop (l.length - k) := by
      have h1 := List.drop_eq_getElem_cons hlt
      rw [show l.length - 1 - k + 1 = l.length - k by omega] at h1
      rw [show l.length - (k + 1) = l.length - 1 - k by omega]
      exact h1
    rw [hd]
    have e : (backF l l.length k).2 = l[l.length - 1 - k] := by simp [backF, List.getElem?_eq_getElem hlt]
    rw [e]; rfl
theorem ev_Less {a : Int} (ha : U a) {l : List Int} (hl : l.length ≤ 1000000) : Ev (fun k => fnv_Less.f k a l) ((lessB (bv a) l).toNat : Int) := by
  unfold fnv_Less.f
  simp only [if_pos hl]
  refine Ev.bind ev_undo ?_
  refine Ev.const ?_
  unfold lessTo
  rw [lessP_eq ha l l.length (Nat.le_refl _), Nat.sub_self]; rfl
theorem ev_lives : Ev (fun k => warrantorlaw19_lives.f k) true := Ev.ofMono warrantorlaw19_lives.mono (K := 40) (by decide +kernel)
end Go.Proofs.Ytgbndakiiblhmaa.FnvEv
