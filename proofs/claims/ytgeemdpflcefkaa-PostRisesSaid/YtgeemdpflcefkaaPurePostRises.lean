import Derived.Test.YtgeemdpflcefkaaYx3
import Derived.Test.YtgeemdpflcefkaaYx35
import Derived.Test.YtgeemdpflcefkaaYx36
import Derived.Test.YtgeemdpflcefkaaPostHad
import Derived.Test.YtgeemdpflcefkaaPostEv
set_option linter.unusedVariables false
set_option linter.unusedSimpArgs false
/- PostRises: behind a statement of a zone that has more is no less. -/
namespace Go.Proofs.Ytgeemdpflcefkaa.DbmEv
open Go.RowKit Go.Proofs.Ytgeemdpflcefkaa.Y Go.Proofs.YtgeemdpflcefkaaW.PrintWords Go.Proofs.YtgeemdpflcefkaaW.PrintLast Go.Proofs.Ytgeemdpflcefkaa.DbmMath
theorem ev_refTwo (a : Int) (xs : List Int) (b : Int) (ys : List Int) (hx : xs.length ≤ 200) (hy : ys.length ≤ 200) : Ev (fun k => warrantorref09_Two.f k a xs b ys) (two a xs b ys) := by
  unfold warrantorref09_Two.f
  refine Ev.bind (ev_refCheck a xs hx) ?_
  by_cases h : isZone a xs = true
  · simp only [h, if_pos]
    refine Ev.bind (ev_refCheck b ys hy) ?_
    refine Ev.succ (fun k => by rw [warrantorref09_Two.j0]) ?_
    refine Ev.const ?_
    unfold two
    by_cases h2 : isZone b ys = true
    · simp [h, h2]; split <;> rfl
    · simp [h, h2]
  · simp only [h, if_neg Bool.false_ne_true]
    refine Ev.succ (fun k => by rw [warrantorref09_Two.j0]) ?_
    refine Ev.const ?_
    unfold two
    simp [h]
/-- The one has no more than the other. -/
def leZ (n : Nat) (xs ys : List Int) : Prop := xs = [] ∨ (¬ ys = [] ∧ ∀ i j, i ≤ n → j ≤ n → at_ n xs i j ≤ at_ n ys i j)
theorem leZ_close {n : Nat} {xs ys : List Int} (hx : xs.length = (n + 1) * (n + 1)) (hy : ys.length = (n + 1) * (n + 1)) (h : ∀ i j, i ≤ n → j ≤ n → at_ n xs i j ≤ at_ n ys i j) : leZ n (closeT n xs) (closeT n ys) := by
  rcases closeT_cases hx with ⟨a, _⟩ | ⟨_, _, hD⟩
  · exact .inl a
  · rcases closeT_cases hy with ⟨_, hE⟩ | ⟨_, b0, hE⟩
    · exact absurd (under_cut h hD.2.1) (hE _ hD.1)
    · exact .inr ⟨b0, hE.2.2 _ hD.1 (under_cut h hD.2.1)⟩
theorem close_self {n : Nat} {xs : List Int} (hl : xs.length = (n + 1) * (n + 1)) (hC : IsClosure n (cut n xs) (at_ n xs)) : closeT n xs = xs := by
  rcases closeT_cases hl with ⟨_, hD⟩ | ⟨a, _, hD⟩
  · exact absurd hC.2.1 (hD _ hC.1)
  · exact list_eq a hl (hD.unique hC)
theorem leZ_lim {n : Nat} {xs ys : List Int} (hx : xs = [] ∨ xs.length = (n + 1) * (n + 1)) (hy : ys = [] ∨ ys.length = (n + 1) * (n + 1)) (h : leZ n xs ys) {i j : Nat} (hi : i ≤ n) (hj : j ≤ n) (c : Int) : leZ n (limZ n xs i j c) (limZ n ys i j c) := by
  unfold limZ
  rcases h with h | ⟨h0, h⟩
  · rw [if_pos h]; exact .inl rfl
  · by_cases hx0 : xs = []
    · rw [if_pos hx0]; exact .inl rfl
    · have lx := hx.resolve_left hx0
      have ly := hy.resolve_left h0
      rw [if_neg hx0, if_neg h0]
      refine leZ_close (by rw [limitL_len]; exact lx) (by rw [limitL_len]; exact ly) fun a b ha hb => ?_
      rw [at_limit lx hi hj c ha hb, at_limit ly hi hj c ha hb]
      have h1 := h i j hi hj
      have h2 := h a b ha hb
      split <;> omega
theorem leZ_free {n : Nat} {xs ys : List Int} (hx : xs = [] ∨ xs.length = (n + 1) * (n + 1)) (hy : ys = [] ∨ ys.length = (n + 1) * (n + 1)) (h : leZ n xs ys) {i : Nat} (hi : i ≤ n) : leZ n (freeZ n xs i) (freeZ n ys i) := by
  unfold freeZ
  rcases h with h | ⟨h0, h⟩
  · rw [if_pos h]; exact .inl rfl
  · by_cases hx0 : xs = []
    · rw [if_pos hx0]; exact .inl rfl
    · have lx := hx.resolve_left hx0
      have ly := hy.resolve_left h0
      rw [if_neg hx0, if_neg h0]
      refine leZ_close (by rw [free_len]; exact lx) (by rw [free_len]; exact ly) fun a b ha hb => ?_
      rw [at_freeAll lx hi ha hb, at_freeAll ly hi ha hb]
      have h2 := h a b ha hb
      split <;> omega
theorem leZ_let {n : Nat} {xs ys : List Int} (zx : isZone (n : Int) xs = true) (zy : isZone (n : Int) ys = true) (h : leZ n xs ys) {i j : Nat} (hi : i ≤ n) (hj : j ≤ n) (c : Int) : leZ n (letZ n xs i j c) (letZ n ys i j c) := by
  have hx := (zone_fit zx).2
  have hy := (zone_fit zy).2
  unfold letZ
  by_cases hc : c > 2199023255552 ∨ c < -2199023255552
  · rw [if_pos hc]; exact .inl rfl
  · rw [if_neg hc, if_neg hc]
    by_cases hij : i = j
    · rw [if_pos hij, if_pos hij]
      rcases h with h | ⟨h0, h⟩
      · rw [if_pos h]; exact .inl rfl
      · by_cases hx0 : xs = []
        · rw [if_pos hx0]; exact .inl rfl
        · obtain ⟨_, lx, cx⟩ := (zone_len zx).2.resolve_left hx0
          obtain ⟨_, ly, cy⟩ := (zone_len zy).2.resolve_left h0
          rw [if_neg hx0, if_neg h0]
          refine leZ_close (by rw [move_len]; exact lx) (by rw [move_len]; exact ly) fun a b ha hb => ?_
          rw [at_move lx hi c (by omega) (cx.1.diag cx.2.1 (cut_le n xs) hi) (fun a b ha hb => by have := closed_range cx ha hb; omega) (n + 1) (Nat.le_refl _) a b ha hb,
            at_move ly hi c (by omega) (cy.1.diag cy.2.1 (cut_le n ys) hi) (fun a b ha hb => by have := closed_range cy ha hb; omega) (n + 1) (Nat.le_refl _) a b ha hb]
          have h2 := h a b ha hb
          split
          · omega
          · split <;> omega
    · rw [if_neg hij, if_neg hij]
      exact leZ_lim (limZ_fit (freeZ_fit hx i) i j c) (limZ_fit (freeZ_fit hy i) i j c) (leZ_lim (freeZ_fit hx i) (freeZ_fit hy i) (leZ_free hx hy h hi) hi hj c) hj hi _
theorem leZ_post {n : Nat} {xs ys : List Int} (zx : isZone (n : Int) xs = true) (zy : isZone (n : Int) ys = true) (h : leZ n xs ys) {k c d : Int} {x y : Nat} (hr : right k (x : Int) (y : Int) c d (n : Int)) : leZ n (postZ n xs k x y c d) (postZ n ys k x y c d) := by
  have hx := (zone_fit zx).2
  have hy := (zone_fit zy).2
  obtain ⟨_, hr⟩ := hr
  have xn : x ≤ n := by omega
  have yn : y ≤ n := by omega
  unfold postZ
  by_cases k1 : k = 1
  · rw [if_pos k1, if_pos k1]; exact h
  · rw [if_neg k1, if_neg k1]
    by_cases k2 : k = 2
    · rw [if_pos k2, if_pos k2]; exact leZ_let zx zy h xn yn c
    · rw [if_neg k2, if_neg k2]
      by_cases k3 : k = 3
      · rw [if_pos k3, if_pos k3]
        exact leZ_lim (limZ_fit (freeZ_fit hx x) x 0 d) (limZ_fit (freeZ_fit hy x) x 0 d) (leZ_lim (freeZ_fit hx x) (freeZ_fit hy x) (leZ_free hx hy h xn) xn (Nat.zero_le _) d) (Nat.zero_le _) xn _
      · rw [if_neg k3, if_neg k3]; exact leZ_lim hx hy h xn yn c
def joinZ (n : Nat) (xs ys : List Int) : List Int := if xs = [] ∨ ys = [] then (if xs = [] then ys else xs) else closeT n (zp mx xs ys ((n + 1) * (n + 1)))
theorem joinZ_zone {n : Nat} (hn : n ≤ 8) {xs ys : List Int} (hx : isZone (n : Int) xs = true) (hy : isZone (n : Int) ys = true) : isZone (n : Int) (joinZ n xs ys) = true := by
  unfold joinZ
  split
  · split
    · exact hy
    · exact hx
  · exact closeT_zone hn (zp_len _ _ _ _)
theorem leZ_join {n : Nat} {xs ys : List Int} (zx : isZone (n : Int) xs = true) (zy : isZone (n : Int) ys = true) : leZ n xs (joinZ n xs ys) := by
  unfold joinZ
  by_cases hx : xs = []
  · exact .inl hx
  · by_cases hy : ys = []
    · rw [if_pos (.inr hy), if_neg hx]; exact .inr ⟨hx, fun _ _ _ _ => Int.le_refl _⟩
    · rw [if_neg (fun h => h.elim hx hy)]
      obtain ⟨_, lx, cx⟩ := (zone_len zx).2.resolve_left hx
      have := leZ_close (n := n) lx (zp_len mx xs ys ((n + 1) * (n + 1))) (fun i j hi hj => by rw [at_zp hi hj, mx_eq]; omega)
      rw [close_self lx cx] at this
      exact this
theorem ev_zleq {n : Nat} {xs ys : List Int} (hzx : isZone (n : Int) xs = true) (hzy : isZone (n : Int) ys = true) (h : leZ n xs ys) : Ev (fun k => zone_Leq.f k (n : Int) xs (n : Int) ys) (true, 0) := by
  have e : two (n : Int) xs (n : Int) ys = 0 := by unfold two; rw [if_pos ⟨hzx, hzy⟩, if_pos rfl]
  obtain ⟨hn, hx⟩ := zone_len hzx
  obtain ⟨_, hy⟩ := zone_len hzy
  have hs := size_le hn
  have key : Ev (fun k => zone_leq.f k (n : Int) xs (n : Int) ys) true := by
    unfold zone_leq.f
    rcases hx with hx | ⟨hx, hlx, _⟩
    · simp only [hx, List.length_nil, Int.natCast_zero, if_pos]
      refine Ev.succ (fun k => by rw [zone_leq.j0]) ?_
      exact Ev.const rfl
    · obtain ⟨hy0, hle⟩ := h.resolve_left hx
      obtain ⟨_, hly, _⟩ := hy.resolve_left hy0
      have hxp := List.length_pos_iff.2 hx
      have hyp := List.length_pos_iff.2 hy0
      simp only [if_neg (show ¬ (xs.length : Int) = 0 by omega), beq_eq_false_iff_ne.2 (show ¬ (ys.length : Int) = 0 by omega)]
      refine Ev.succ (fun k => by rw [zone_leq.j0]) ?_
      simp only [if_neg Bool.false_ne_true]
      have key := Ev.up0 (l := fun k i => zone_leq.l0 k xs (xs.length : Int) (i : Int) (n : Int) ys) (N := xs.length) (r := true) ?_ ?_
      · exact key
      · refine Ev.succ (fun k => by rw [zone_leq.l0]) ?_
        simp only [if_neg (Int.lt_irrefl _)]
        exact Ev.const rfl
      · intro i hi h2
        refine Ev.succ (fun k => by rw [zone_leq.l0]) ?_
        obtain ⟨p, q, hp, hq, rfl⟩ := place_split n i (by omega)
        have := hle p q hp hq
        unfold at_ at this
        simp only [if_pos (show ((p * (n + 1) + q : Nat) : Int) < (xs.length : Int) by omega), if_pos (show (0 : Int) ≤ ((p * (n + 1) + q : Nat) : Int) by omega), if_pos (show ((p * (n + 1) + q : Nat) : Int) < (ys.length : Int) by omega), if_neg (show ¬ rd xs ((p * (n + 1) + q : Nat) : Int) > rd ys ((p * (n + 1) + q : Nat) : Int) by omega), succ_nat (p * (n + 1) + q) (by omega)]
        exact h2
  unfold zone_Leq.f
  refine Ev.bind (ev_two _ _ _ _) ?_
  simp only [e, if_pos]
  exact Ev.bind key (Ev.const rfl)
theorem pure_PostRises : warrantorlaw14_PostRises.Pure := by
  intro a xs b ys k x y c d _ _ _ _ _ _ _ _ _ _ _ _ _
  apply Ev.get
  unfold warrantorlaw14_PostRises.f warrantorref08_Large.f
  simp only [Option.bind_some]
  have big : Ev (fun q => warrantorlaw14_PostRises.j0 q true a xs b ys k x y c d) true := by
    refine Ev.succ (fun k => by rw [warrantorlaw14_PostRises.j0]) ?_
    simp only [if_pos, Option.bind_fun_some]
    exact ev_lives14
  by_cases g1 : (xs.length : Int) > 200
  · simp only [g1, decide_true, if_pos]; exact big
  · simp only [g1, decide_false, if_neg Bool.false_ne_true]
    by_cases g2 : (ys.length : Int) > 200
    · simp only [g2, decide_true, if_pos]; exact big
    · simp only [g2, decide_false, if_neg Bool.false_ne_true]
      refine Ev.bind (ev_refTwo _ _ _ _ (by omega) (by omega)) ?_
      by_cases ht : two a xs b ys = 0
      · simp only [if_pos ht]
        refine Ev.bind (ev_rcheck _ _ _ _ _ _ _ (by omega)) ?_
        by_cases hc : chk a xs k x y c d = 0
        · obtain ⟨rfl, zx, zy⟩ := two_cases ht
          obtain ⟨_, hr⟩ := chk_zero hc
          obtain ⟨n, rfl, hn⟩ : ∃ n : Nat, a = n ∧ n ≤ 8 := by
            obtain ⟨n, h1, h2, _⟩ := zone_cases zx
            exact ⟨n, h1, h2⟩
          obtain ⟨p, q, rfl, rfl⟩ := right_nat hr
          have zj := joinZ_zone hn zx zy
          rw [hc, show ((0 : Int) != 0) = false from rfl]
          refine Ev.succ (fun k => by rw [warrantorlaw14_PostRises.j0]) ?_
          simp only [if_neg Bool.false_ne_true]
          refine Ev.bind (ev_Join zx zy) ?_
          refine Ev.bind (ev_Post zx hr) ?_
          refine Ev.bind (ev_Post zj hr) ?_
          refine Ev.bind (ev_zleq (postZ_zone zx k p q c d) (postZ_zone zj k p q c d) (leZ_post zx zj (leZ_join zx zy) hr)) ?_
          refine Ev.bind ev_lives14 ?_
          simp only [if_pos]
          exact Ev.const rfl
        · rw [show (chk a xs k x y c d != 0) = true by rw [bne_iff_ne]; exact hc]
          exact big
      · simp only [if_neg ht]; exact big
end Go.Proofs.Ytgeemdpflcefkaa.DbmEv
namespace Go.Proofs.Ytgeemdpflcefkaa.Pure
open Go.RowKit Go.Proofs.Ytgeemdpflcefkaa.Y Go.Proofs.YtgeemdpflcefkaaW.PrintWords Go.Proofs.YtgeemdpflcefkaaW.PrintLast
theorem PostRises : warrantorlaw14_PostRises.Pure := DbmEv.pure_PostRises
end Go.Proofs.Ytgeemdpflcefkaa.Pure
