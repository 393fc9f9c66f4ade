/- ZoneHas: whether any valuation is in what is made of zones is what it must be by those that were handed in. -/
import Derived.Test.YtgeemdpflcefkaaZx3
import Derived.Test.YtgeemdpflcefkaaZx21
import Derived.Test.YtgeemdpflcefkaaZx23
import Derived.Test.YtgeemdpflcefkaaZx24
import Derived.Test.YtgeemdpflcefkaaZx44
import Derived.Test.YtgeemdpflcefkaaZx45
import Derived.Test.YtgeemdpflcefkaaZx46
import Derived.Test.YtgeemdpflcefkaaZx47
import Derived.Test.YtgeemdpflcefkaaZoneHad
import Derived.Test.YtgeemdpflcefkaaZoneDbm
import Derived.Test.YtgeemdpflcefkaaZoneEv
set_option linter.unusedVariables false
set_option linter.unusedSimpArgs false
namespace Go.Proofs.Ytgeemdpflcefkaa.DbmEv
open Go.RowKit Go.Proofs.Ytgeemdpflcefkaa.Z Go.Proofs.YtgeemdpflcefkaaW.PrintWords Go.Proofs.YtgeemdpflcefkaaW.PrintLast Go.Proofs.Ytgeemdpflcefkaa.DbmMath
def meetZ (n : Nat) (xs ys : List Int) : List Int := if xs = [] ∨ ys = [] then [] else closeT n (zp mn xs ys ((n + 1) * (n + 1)))
def joinZ (F : Int → Int → Int) (n : Nat) (xs ys : List Int) : List Int := if xs = [] ∨ ys = [] then (if xs = [] then ys else xs) else closeT n (zp F xs ys ((n + 1) * (n + 1)))
theorem meetZ_zone {n : Nat} (hn : n ≤ 8) (xs ys : List Int) : isZone (n : Int) (meetZ n xs ys) = true := by
  unfold meetZ
  split
  · exact isZone_nil hn
  · exact closeT_zone hn (zp_len _ _ _ _)
theorem joinZ_zone (F : Int → Int → Int) {n : Nat} (hn : n ≤ 8) {xs ys : List Int} (hx : isZone (n : Int) xs = true) (hy : isZone (n : Int) ys = true) : isZone (n : Int) (joinZ F n xs ys) = true := by
  unfold joinZ
  split
  · split
    · exact hy
    · exact hx
  · exact closeT_zone hn (zp_len _ _ _ _)
theorem hasP_meet {n : Nat} {xs ys v : List Int} : hasP n (meetZ n xs ys) v ↔ hasP n xs v ∧ hasP n ys v := by
  unfold meetZ
  by_cases h : xs = [] ∨ ys = []
  · rw [if_pos h]
    exact ⟨fun h2 => absurd rfl h2.1, fun h2 => absurd h (fun h3 => h3.elim h2.1.1 h2.2.1)⟩
  · rw [if_neg h, hasP_close (zp_len _ _ _ _)]
    constructor
    · rintro ⟨h1, h2⟩
      refine ⟨⟨fun e => h (.inl e), h1, fun a b ha hb => ?_⟩, ⟨fun e => h (.inr e), h1, fun a b ha hb => ?_⟩⟩
      · have := h2 a b ha hb
        rw [at_zp ha hb, mn_eq] at this
        omega
      · have := h2 a b ha hb
        rw [at_zp ha hb, mn_eq] at this
        omega
    · rintro ⟨⟨_, h1, h2⟩, ⟨_, _, h3⟩⟩
      refine ⟨h1, fun a b ha hb => ?_⟩
      have := h2 a b ha hb
      have := h3 a b ha hb
      rw [at_zp ha hb, mn_eq]
      omega
theorem hasP_join {F : Int → Int → Int} (hF : ∀ a b d : Int, d ≤ 2199023255552 → (d ≤ a → d ≤ F a b) ∧ (d ≤ b → d ≤ F a b)) {n : Nat} {xs ys v : List Int} (h : hasP n xs v ∨ hasP n ys v) : hasP n (joinZ F n xs ys) v := by
  unfold joinZ
  by_cases h0 : xs = [] ∨ ys = []
  · rw [if_pos h0]
    by_cases h1 : xs = []
    · rw [if_pos h1]
      exact h.resolve_left fun h2 => h2.1 h1
    · rw [if_neg h1]
      exact h.resolve_right fun h2 => h2.1 (h0.resolve_left h1)
  · rw [if_neg h0, hasP_close (zp_len _ _ _ _)]
    rcases h with ⟨_, h1, h2⟩ | ⟨_, h1, h2⟩
    · exact ⟨h1, fun a b ha hb => by rw [at_zp ha hb]; exact (hF _ _ _ (val_far h1 ha hb)).1 (h2 a b ha hb)⟩
    · exact ⟨h1, fun a b ha hb => by rw [at_zp ha hb]; exact (hF _ _ _ (val_far h1 ha hb)).2 (h2 a b ha hb)⟩
theorem ev_MeetZ {n : Nat} {xs ys : List Int} (hx : isZone (n : Int) xs = true) (hy : isZone (n : Int) ys = true) : Ev (fun k => zone_Meet.f k (n : Int) xs (n : Int) ys) ((n : Int), meetZ n xs ys, 0) := ev_Meet hx hy
theorem ev_JoinZ {n : Nat} {xs ys : List Int} (hx : isZone (n : Int) xs = true) (hy : isZone (n : Int) ys = true) : Ev (fun k => zone_Join.f k (n : Int) xs (n : Int) ys) ((n : Int), joinZ mx n xs ys, 0) := ev_Join hx hy
theorem ev_WidenZ {n : Nat} {xs ys : List Int} (hx : isZone (n : Int) xs = true) (hy : isZone (n : Int) ys = true) : Ev (fun k => zone_Widen.f k (n : Int) xs (n : Int) ys) ((n : Int), joinZ wid n xs ys, 0) := ev_Widen hx hy
theorem mx_up (a b d : Int) (_ : d ≤ 2199023255552) : (d ≤ a → d ≤ mx a b) ∧ (d ≤ b → d ≤ mx a b) := by rw [mx_eq]; omega
theorem wid_up (a b d : Int) (h : d ≤ 2199023255552) : (d ≤ a → d ≤ wid a b) ∧ (d ≤ b → d ≤ wid a b) := by unfold wid; split <;> omega
theorem val_congr {n : Nat} {m : Mat} {v u : List Int} (h : ∀ a, a ≤ n → wv u a = wv v a) : Val n m v ↔ Val n m u := by
  unfold Val
  constructor
  · rintro ⟨h1, h2⟩
    exact ⟨fun a ha => by rw [h a ha]; exact h1 a ha, fun a b ha hb => by rw [h a ha, h b hb]; exact h2 a b ha hb⟩
  · rintro ⟨h1, h2⟩
    exact ⟨fun a ha => by rw [← h a ha]; exact h1 a ha, fun a b ha hb => by rw [← h a ha, ← h b hb]; exact h2 a b ha hb⟩
theorem free_with {n : Nat} {xs v : List Int} (hx : xs = [] ∨ xs.length = (n + 1) * (n + 1)) (hv : v.length = n) (hp : hasP n xs v) {i : Nat} (h1 : 1 ≤ i) (hi : i ≤ n) (x : Int) : hasP n (freeZ n xs i) (withV v i x) ↔ -1099511627776 ≤ x ∧ x ≤ 1099511627776 := by
  rw [hasP_free hx hi]
  have hw := wv_with hv h1 hi x
  constructor
  · rintro ⟨_, h2, _⟩
    have := h2 i hi
    rw [hw, if_pos rfl] at this
    exact this
  · intro hr
    refine ⟨hp.1, fun a ha => ?_, fun a b ha hb hai hbi => ?_⟩
    · rw [hw]
      split
      · exact hr
      · exact hp.2.1 a ha
    · rw [hw, hw, if_neg hai, if_neg hbi]
      exact hp.2.2 a b ha hb
theorem let_with {n : Nat} {xs v : List Int} (hz : isZone (n : Int) xs = true) (hv : v.length = n) (hp : hasP n xs v) {i j : Nat} (h1 : 1 ≤ i) (hi : i ≤ n) (hj : j ≤ n) (d : Int) (hd : -1099511627776 ≤ d ∧ d ≤ 1099511627776) : hasP n (letZ n xs i j d) (withV v i (wv v j + d)) ↔ inR (wv v j + d) = true := by
  have hw := wv_with hv h1 hi (wv v j + d)
  rw [inR_iff]
  by_cases hij : i = j
  · subst hij
    rw [hasP_let_same hz (by rw [withV_len]; exact hv) h1 hi d (by omega), hw, if_pos rfl]
    have e : hasP n xs (withV (withV v i (wv v i + d)) i (wv v i + d - d)) := by
      refine ⟨hp.1, (val_congr fun a ha => ?_).1 hp.2⟩
      rw [wv_with (by rw [withV_len]; exact hv) h1 hi, hw]
      by_cases ha : a = i
      · rw [if_pos ha, ha]; omega
      · rw [if_neg ha, if_neg ha]
    exact ⟨fun h => h.1, fun h => ⟨h, e⟩⟩
  · rw [hasP_let hz hi hj hij d (by omega), free_with (zone_fit hz).2 hv hp h1 hi, hw, hw, if_pos rfl, if_neg (fun h => hij h.symm)]
    exact ⟨fun h => h.1, fun h => ⟨h, rfl⟩⟩
theorem free_itv {n : Nat} {xs v : List Int} (hz : isZone (n : Int) xs = true) (hv : v.length = n) (hp : hasP n xs v) {i : Nat} (h1 : 1 ≤ i) (hi : i ≤ n) : itvZ n (freeZ n xs i) i = (-1099511627776, 1099511627776) := by
  obtain ⟨hn, hx⟩ := zone_fit hz
  have u1 := (free_with hx hv hp h1 hi (-1099511627776)).2 (by omega)
  have u2 := (free_with hx hv hp h1 hi 1099511627776).2 (by omega)
  have w1 := u1.2.2 0 i (Nat.zero_le _) hi
  have w2 := u2.2.2 i 0 hi (Nat.zero_le _)
  rw [wv_with hv h1 hi, wv_with hv h1 hi, if_pos rfl, if_neg (by omega), wv_zero] at w1 w2
  obtain ⟨_, _, hC⟩ := (zone_len (freeZ_zone hn hx i)).2.resolve_left u1.1
  have hb := zone_bounds hC hi
  unfold itvZ
  rw [if_neg u1.1, show at_ n (freeZ n xs i) 0 i = 1099511627776 by omega, show at_ n (freeZ n xs i) i 0 = 1099511627776 by omega]
theorem clip_f (c : Int) : ∃ d, warrantorref06_Clip.f c = some d ∧ -1099511627776 ≤ d ∧ d ≤ 1099511627776 := by
  unfold warrantorref06_Clip.f
  by_cases h : c > 1099511627776
  · exact ⟨_, by rw [if_pos h], by omega, by omega⟩
  · by_cases h2 : c < -1099511627776
    · exact ⟨_, by rw [if_neg h, if_pos h2], by omega, by omega⟩
    · exact ⟨_, by rw [if_neg h, if_neg h2], by omega, by omega⟩
theorem has_v0 {n : Nat} {xs ys v : List Int} (hx : isZone (n : Int) xs = true) (hy : isZone (n : Int) ys = true) (hv : v.length = n) {i j : Nat} (h1 : 1 ≤ i) (hi : i ≤ n) (hj : j ≤ n) (c : Int) (hp : hasP n xs v) :
    Ev (fun k => warrantorlaw09_ZoneHas_v0.j0 k v (i : Int) (j : Int) c false (n : Int) xs (n : Int) ys) true := by
  obtain ⟨hn, hfx⟩ := zone_fit hx
  have zm := meetZ_zone hn xs ys
  have zu := joinZ_zone mx hn hx hy
  have zw := joinZ_zone wid hn hx hy
  have zl := limZ_zone hn hfx i j c
  have zf := freeZ_zone hn hfx i
  have hX := (hasZ_iff hx).2 hp
  obtain ⟨d, hd, hd1, hd2⟩ := clip_f c
  have rj := hp.2.1 j hj
  have ri := hp.2.1 i hi
  have zt := letZ_zone hn hfx i j d
  refine Ev.succ (fun k => by rw [warrantorlaw09_ZoneHas_v0.j0]) ?_
  simp only [if_neg Bool.false_ne_true]
  refine Ev.bind (ev_MeetZ hx hy) ?_
  refine Ev.bind (ev_JoinZ hx hy) ?_
  refine Ev.bind (ev_WidenZ hx hy) ?_
  refine Ev.bind (ev_Limit hx hi hj c) ?_
  refine Ev.bind (ev_hasZ hx hv) ?_
  refine Ev.bind (ev_hasZ hy hv) ?_
  refine Ev.bind ev_lives09 ?_
  simp only [if_pos]
  refine Ev.bind (ev_hasZ zm hv) ?_
  have e1 : hasZ n (meetZ n xs ys) v = hasZ n ys v := by
    apply Bool.eq_iff_iff.2
    rw [hasZ_iff zm, hasZ_iff hy, hasP_meet]
    exact ⟨fun h => h.2, fun h => ⟨hp, h⟩⟩
  simp only [hX, if_pos, e1, bne_self_eq_false, if_neg Bool.false_ne_true]
  refine Ev.bind (ev_hasZ zu hv) ?_
  simp only [(hasZ_iff zu).2 (hasP_join mx_up (.inl hp)), if_pos]
  refine Ev.bind (ev_hasZ zw hv) ?_
  simp only [(hasZ_iff zw).2 (hasP_join wid_up (.inl hp)), if_pos]
  refine Ev.bind (ev_hasZ zl hv) ?_
  simp only [value_f hv hn hi, value_f hv hn hj, Option.bind_some, w64 (x := wv v i - wv v j) (by omega) (by omega)]
  have e2 : hasZ n (limZ n xs i j c) v = decide (wv v i - wv v j ≤ c) := by
    apply Bool.eq_iff_iff.2
    rw [hasZ_iff zl, hasP_lim hfx hi hj, decide_eq_true_eq]
    exact ⟨fun h => h.2, fun h => ⟨hp, h⟩⟩
  simp only [e2, bne_self_eq_false, if_neg Bool.false_ne_true]
  refine Ev.bind (ev_Forget hx hi h1) ?_
  refine Ev.bind (ev_Itv zf hi) ?_
  simp only [hd, Option.bind_some]
  refine Ev.bind (ev_Let hx hi h1 hj d) ?_
  simp only [free_itv hx hv hp h1 hi, itv_All.f, Option.bind_some, BEq.rfl, Bool.and_self, if_pos, with_f hv hn h1 hi]
  refine Ev.bind (ev_hasZ zf (by rw [withV_len]; exact hv)) ?_
  simp only [(hasZ_iff zf).2 ((free_with hfx hv hp h1 hi d).2 ⟨hd1, hd2⟩), if_pos, w64 (x := wv v j + d) (by omega) (by omega), Is_f, Option.bind_some]
  refine Ev.bind (ev_hasZ zt (by rw [withV_len]; exact hv)) ?_
  refine Ev.const ?_
  have e3 : hasZ n (letZ n xs i j d) (withV v i (wv v j + d)) = inR (wv v j + d) := by
    apply Bool.eq_iff_iff.2
    rw [hasZ_iff zt, let_with hx hv hp h1 hi hj d ⟨hd1, hd2⟩]
  rw [e3]
  simp
theorem has_v1 {n : Nat} {xs ys v : List Int} (hx : isZone (n : Int) xs = true) (hy : isZone (n : Int) ys = true) (hv : v.length = n) {i j : Nat} (h1 : 1 ≤ i) (hi : i ≤ n) (hj : j ≤ n) (c : Int) (hp : ¬ hasP n xs v) :
    Ev (fun k => warrantorlaw09_ZoneHas_v1.j0 k v (i : Int) (j : Int) c false (n : Int) xs (n : Int) ys) true := by
  obtain ⟨hn, hfx⟩ := zone_fit hx
  have zm := meetZ_zone hn xs ys
  have zu := joinZ_zone mx hn hx hy
  have zw := joinZ_zone wid hn hx hy
  have zl := limZ_zone hn hfx i j c
  have zf := freeZ_zone hn hfx i
  have hX := (hasZ_false hx).2 hp
  have e1 : hasZ n (meetZ n xs ys) v = false := (hasZ_false zm).2 fun h => hp (hasP_meet.1 h).1
  have e2 : hasZ n (limZ n xs i j c) v = false := (hasZ_false zl).2 fun h => hp ((hasP_lim hfx hi hj c).1 h).1
  have one : Ev (fun k => warrantorlaw09_ZoneHas_v1.j1 k v (i : Int) false false (n : Int) xs (n : Int) (limZ n xs i j c)) true := by
    refine Ev.succ (fun k => by rw [warrantorlaw09_ZoneHas_v1.j1]) ?_
    simp only [if_neg Bool.false_ne_true]
    refine Ev.bind (ev_hasZ zl hv) ?_
    simp only [e2, bne_self_eq_false, if_neg Bool.false_ne_true]
    refine Ev.bind (ev_Forget hx hi h1) ?_
    exact Ev.bind (ev_Itv zf hi) (Ev.const rfl)
  refine Ev.succ (fun k => by rw [warrantorlaw09_ZoneHas_v1.j0]) ?_
  simp only [if_neg Bool.false_ne_true]
  refine Ev.bind (ev_MeetZ hx hy) ?_
  refine Ev.bind (ev_JoinZ hx hy) ?_
  refine Ev.bind (ev_WidenZ hx hy) ?_
  refine Ev.bind (ev_Limit hx hi hj c) ?_
  refine Ev.bind (ev_hasZ hx hv) ?_
  refine Ev.bind (ev_hasZ hy hv) ?_
  refine Ev.bind ev_lives09 ?_
  simp only [if_pos]
  refine Ev.bind (ev_hasZ zm hv) ?_
  simp only [hX, e1, bne_self_eq_false, if_neg Bool.false_ne_true]
  cases hY : hasZ n ys v with
  | true =>
    have hq := (hasZ_iff hy).1 hY
    simp only [if_pos]
    refine Ev.bind (ev_hasZ zu hv) ?_
    simp only [(hasZ_iff zu).2 (hasP_join mx_up (.inr hq)), if_pos]
    refine Ev.bind (ev_hasZ zw hv) ?_
    simp only [(hasZ_iff zw).2 (hasP_join wid_up (.inr hq)), Bool.not_true]
    exact one
  | false =>
    simp only [if_neg Bool.false_ne_true]
    exact one
theorem hasf_v0 {n : Nat} {xs ys v : List Int} (hx : isZone (n : Int) xs = true) (hy : isZone (n : Int) ys = true) (lx : xs.length ≤ 200) (ly : ys.length ≤ 200) (hv : v.length = n) (hn : n ≤ 8) {i j : Nat} (h1 : 1 ≤ i) (hi : i ≤ n) (hj : j ≤ n) (c : Int)
    (h : Ev (fun k => warrantorlaw09_ZoneHas_v0.j0 k v (i : Int) (j : Int) c false (n : Int) xs (n : Int) ys) true) : Ev (fun k => warrantorlaw09_ZoneHas_v0.f k (n : Int) xs (n : Int) ys v (i : Int) (j : Int) c) true := by
  unfold warrantorlaw09_ZoneHas_v0.f warrantorref08_Large.f
  simp only [Option.bind_some, decide_eq_false (show ¬ (xs.length : Int) > 200 by omega), decide_eq_false (show ¬ (ys.length : Int) > 200 by omega), if_neg Bool.false_ne_true, if_neg (show ¬ (v.length : Int) > 8 by omega)]
  refine Ev.bind (ev_refTwo _ _ _ _ lx ly) ?_
  have e : two (n : Int) xs (n : Int) ys = 0 := by unfold two; rw [if_pos ⟨hx, hy⟩, if_pos rfl]
  have dV : decide (1 ≤ (i : Int) ∧ (i : Int) ≤ (n : Int)) = true := decide_eq_true (by omega)
  have dO : decide (0 ≤ (j : Int) ∧ (j : Int) ≤ (n : Int)) = true := decide_eq_true (by omega)
  simp only [e, if_pos, if_pos (show (v.length : Int) = (n : Int) by omega), var_f, or0_f, Option.bind_some, dV, dO, Bool.not_true]
  exact h
theorem hasf_v1 {n : Nat} {xs ys v : List Int} (hx : isZone (n : Int) xs = true) (hy : isZone (n : Int) ys = true) (lx : xs.length ≤ 200) (ly : ys.length ≤ 200) (hv : v.length = n) (hn : n ≤ 8) {i j : Nat} (h1 : 1 ≤ i) (hi : i ≤ n) (hj : j ≤ n) (c : Int)
    (h : Ev (fun k => warrantorlaw09_ZoneHas_v1.j0 k v (i : Int) (j : Int) c false (n : Int) xs (n : Int) ys) true) : Ev (fun k => warrantorlaw09_ZoneHas_v1.f k (n : Int) xs (n : Int) ys v (i : Int) (j : Int) c) true := by
  unfold warrantorlaw09_ZoneHas_v1.f warrantorref08_Large.f
  simp only [Option.bind_some, decide_eq_false (show ¬ (xs.length : Int) > 200 by omega), decide_eq_false (show ¬ (ys.length : Int) > 200 by omega), if_neg Bool.false_ne_true, if_neg (show ¬ (v.length : Int) > 8 by omega)]
  refine Ev.bind (ev_refTwo _ _ _ _ lx ly) ?_
  have e : two (n : Int) xs (n : Int) ys = 0 := by unfold two; rw [if_pos ⟨hx, hy⟩, if_pos rfl]
  have dV : decide (1 ≤ (i : Int) ∧ (i : Int) ≤ (n : Int)) = true := decide_eq_true (by omega)
  have dO : decide (0 ≤ (j : Int) ∧ (j : Int) ≤ (n : Int)) = true := decide_eq_true (by omega)
  simp only [e, if_pos, if_pos (show (v.length : Int) = (n : Int) by omega), var_f, or0_f, Option.bind_some, dV, dO, Bool.not_true]
  exact h
theorem pure_ZoneHas : warrantorlaw09_ZoneHas.Pure := by
  intro a xs b ys v i j c _ _ _ _ _ _ _ _ _ _ _ _ _ _
  have big : Ev (fun k => warrantorlaw09_ZoneHas_v0.j0 k v i j c true a xs b ys) true := by
    refine Ev.succ (fun k => by rw [warrantorlaw09_ZoneHas_v0.j0]) ?_
    simp only [if_pos, Option.bind_fun_some]
    exact ev_lives09
  have key : Ev (fun k => warrantorlaw09_ZoneHas_v0.f k a xs b ys v i j c) true ∨ Ev (fun k => warrantorlaw09_ZoneHas_v1.f k a xs b ys v i j c) true := by
    by_cases good : xs.length ≤ 200 ∧ ys.length ≤ 200 ∧ v.length ≤ 8 ∧ two a xs b ys = 0 ∧ (v.length : Int) = a ∧ (1 ≤ i ∧ i ≤ a) ∧ (0 ≤ j ∧ j ≤ a)
    · obtain ⟨lx, ly, lv, ht, hv, hi, hj⟩ := good
      obtain ⟨rfl, hzx, hzy⟩ := two_cases ht
      obtain ⟨n, rfl, hn⟩ := zone_nat hzx
      obtain ⟨p, rfl⟩ := Int.eq_ofNat_of_zero_le (show 0 ≤ i by omega)
      obtain ⟨q, rfl⟩ := Int.eq_ofNat_of_zero_le hj.1
      have hvn : v.length = n := by omega
      have hp1 : 1 ≤ p := by omega
      have hpn : p ≤ n := by omega
      have hqn : q ≤ n := by omega
      cases hX : hasZ n xs v with
      | true => exact .inl (hasf_v0 hzx hzy lx ly hvn hn hp1 hpn hqn c (has_v0 hzx hzy hvn hp1 hpn hqn c ((hasZ_iff hzx).1 hX)))
      | false => exact .inr (hasf_v1 hzx hzy lx ly hvn hn hp1 hpn hqn c (has_v1 hzx hzy hvn hp1 hpn hqn c ((hasZ_false hzx).1 hX)))
    · left
      unfold warrantorlaw09_ZoneHas_v0.f warrantorref08_Large.f
      simp only [Option.bind_some]
      by_cases g1 : (xs.length : Int) > 200
      · simp only [g1, decide_true, if_pos]; exact big
      · simp only [g1, decide_false, if_neg Bool.false_ne_true]
        by_cases g2 : (ys.length : Int) > 200
        · simp only [g2, decide_true, if_pos]; exact big
        · simp only [g2, decide_false, if_neg Bool.false_ne_true]
          by_cases g3 : (v.length : Int) > 8
          · simp only [if_pos g3]; exact big
          · simp only [if_neg g3]
            refine Ev.bind (ev_refTwo _ _ _ _ (by omega) (by omega)) ?_
            by_cases g4 : two a xs b ys = 0
            · simp only [if_pos g4]
              by_cases g5 : (v.length : Int) = a
              · simp only [if_pos g5, var_f, or0_f, Option.bind_some]
                by_cases g6 : 1 ≤ i ∧ i ≤ a
                · simp only [decide_eq_true g6, if_pos]
                  have g7 : ¬ (0 ≤ j ∧ j ≤ a) := fun h => good ⟨by omega, by omega, by omega, g4, g5, g6, h⟩
                  simp only [decide_eq_false g7, Bool.not_false]; exact big
                · simp only [decide_eq_false g6, if_neg Bool.false_ne_true]; exact big
              · simp only [if_neg g5]; exact big
            · simp only [if_neg g4]; exact big
  rcases key with h | h
  · obtain ⟨k, hk⟩ := h.get; exact ⟨k, .inl hk⟩
  · obtain ⟨k, hk⟩ := h.get; exact ⟨k, .inr hk⟩
end Go.Proofs.Ytgeemdpflcefkaa.DbmEv
namespace Go.Proofs.Ytgeemdpflcefkaa.Pure
open Go.RowKit Go.Proofs.Ytgeemdpflcefkaa.Z Go.Proofs.YtgeemdpflcefkaaW.PrintWords Go.Proofs.YtgeemdpflcefkaaW.PrintLast
theorem ZoneHas : warrantorlaw09_ZoneHas.Pure := DbmEv.pure_ZoneHas
end Go.Proofs.Ytgeemdpflcefkaa.Pure
